import PyProof.Rows.All
import KE.GoesMore
import KE.GoesEnum
import KE.GoesZip
import KE.KSuperObj
import KE.KUnpackStar
import Wide.All
import OpenK.AllK
import Wide.FinOn
import PyProof.EqAt
import PyProof.EqKinds
import PyProof.TupleCall
import KE.KStateDown
import KE.KExcInit
import KE.KExcIs
import KE.KCallOwn
import KE.KUnpackStar
import Lean
import HandS.Base
import HandS.Call
import HandS.List
import HandS.Comp
import HandS.Ends
import HandS.Dict
import HandS.Iter
import HandS.Text
import HandS.More
import HandS.Exc
import HandS.TryOnly
import HandS.ExcOwn
import HandS.Words
import HandS.WordsList
import HandS.WordsDict
import HandS.WordsExc
import HandS.Defaults
import HandS.Flow
import HandS.TryMany
import HandS.ExcCtx
import HandS.Hot
import HandS.HotCalls
import HandS.Property
import HandS.ClsMeth
import HandS.Steps
import HandS.Evl
import HandS.ListItems
import HandS.NoneIn
import HandS.Deep
import HandS.EndTab
import HandS.NestedK
import HandS.SlotsOwn
import HandS.IsInst
import HandS.FStr
import HandS.Small
import HandS.Style
import HandS.TupLe
import HandS.TupAny
import HandS.Zip
import HandS.Star
import HandS.SetFor
import HandS.RaiseMore
import HandS.CallLocal
import HandS.Finally
import HandS.Head0
import HandS.Head1
import HandS.Head2
import HandS.HeadEnd
import HandS.HeadHook1
import HandS.HeadHook2
import HandS.HeadHook3
import HandS.HeadHook4
import HandS.HeadWalk
import PySem.Challenge.RW_wrapwidths_k97_whole_console_beside_a_pa
set_option Elab.async false
set_option linter.all false
set_option maxRecDepth 100000
set_option maxHeartbeats 4000000
section
/-! the text: its defs, their names -/
namespace TX
open PySem PySem.Spec PyProof.Rows L2
def top (i : Nat) : Stmt := PySem.Challenge.pw_wrapwidths_k97_whole_console_beside_a_pa.main.body.getD i (.Pass ⟨0, 0, 0, 0⟩)
def mth (c : Stmt) (i : Nat) : Stmt := match c with
  | .ClassDef _ _ _ body .. => body.getD i (.Pass ⟨0, 0, 0, 0⟩)
  | _ => .Pass ⟨0, 0, 0, 0⟩
abbrev c_WrapError : Stmt := top 2
abbrev c_NoRows : Stmt := top 3
abbrev c_TooMany : Stmt := top 4
abbrev c_TooNarrow : Stmt := top 5
abbrev c_BadLength : Stmt := top 6
abbrev c_LastWord : Stmt := top 7
abbrev c_BadRow : Stmt := top 8
abbrev c_BadTimes : Stmt := top 9
abbrev c_TooLong : Stmt := top 10
abbrev c_TooManyEdits : Stmt := top 11
abbrev c_NothingToUndo : Stmt := top 12
abbrev c_BadEdits : Stmt := top 13
abbrev c_BadEdit : Stmt := top 14
abbrev c_Rejected : Stmt := top 15
abbrev c_Busy : Stmt := top 16
abbrev c_BadText : Stmt := top 17
abbrev c_NoPlace : Stmt := top 18
abbrev c_NoWidth : Stmt := top 19
abbrev c_NoVersion : Stmt := top 20
abbrev c_WordRow : Stmt := top 54
abbrev c_Console : Stmt := top 63
abbrev c_Page : Stmt := top 74
abbrev c_NarrowPage : Stmt := top 75
abbrev c_LoggedPage : Stmt := top 76
abbrev c_LoggedNarrowPage : Stmt := top 77
abbrev s_TooMany_init : Stmt := mth c_TooMany 0
abbrev N_TooMany_init : List Str := ["self", "limit"]
abbrev P_TooMany_init : List Str := ["self", "limit"]
theorem sc_TooMany_init : FnScope N_TooMany_init P_TooMany_init (defScope s_TooMany_init) := ⟨rfl, rfl, rfl, by decide +kernel, rfl, by decide +kernel, by decide +kernel⟩
abbrev s_TooNarrow_init : Stmt := mth c_TooNarrow 0
abbrev N_TooNarrow_init : List Str := ["self", "place"]
abbrev P_TooNarrow_init : List Str := ["self", "place"]
theorem sc_TooNarrow_init : FnScope N_TooNarrow_init P_TooNarrow_init (defScope s_TooNarrow_init) := ⟨rfl, rfl, rfl, by decide +kernel, rfl, by decide +kernel, by decide +kernel⟩
abbrev s_BadLength_init : Stmt := mth c_BadLength 0
abbrev N_BadLength_init : List Str := ["self", "value"]
abbrev P_BadLength_init : List Str := ["self", "value"]
theorem sc_BadLength_init : FnScope N_BadLength_init P_BadLength_init (defScope s_BadLength_init) := ⟨rfl, rfl, rfl, by decide +kernel, rfl, by decide +kernel, by decide +kernel⟩
abbrev s_BadRow_init : Stmt := mth c_BadRow 0
abbrev N_BadRow_init : List Str := ["self", "error"]
abbrev P_BadRow_init : List Str := ["self", "error"]
theorem sc_BadRow_init : FnScope N_BadRow_init P_BadRow_init (defScope s_BadRow_init) := ⟨rfl, rfl, rfl, by decide +kernel, rfl, by decide +kernel, by decide +kernel⟩
abbrev s_BadTimes_init : Stmt := mth c_BadTimes 0
abbrev N_BadTimes_init : List Str := ["self", "value"]
abbrev P_BadTimes_init : List Str := ["self", "value"]
theorem sc_BadTimes_init : FnScope N_BadTimes_init P_BadTimes_init (defScope s_BadTimes_init) := ⟨rfl, rfl, rfl, by decide +kernel, rfl, by decide +kernel, by decide +kernel⟩
abbrev s_TooLong_init : Stmt := mth c_TooLong 0
abbrev N_TooLong_init : List Str := ["self", "place"]
abbrev P_TooLong_init : List Str := ["self", "place"]
theorem sc_TooLong_init : FnScope N_TooLong_init P_TooLong_init (defScope s_TooLong_init) := ⟨rfl, rfl, rfl, by decide +kernel, rfl, by decide +kernel, by decide +kernel⟩
abbrev s_BadEdit_init : Stmt := mth c_BadEdit 0
abbrev N_BadEdit_init : List Str := ["self", "index"]
abbrev P_BadEdit_init : List Str := ["self", "index"]
theorem sc_BadEdit_init : FnScope N_BadEdit_init P_BadEdit_init (defScope s_BadEdit_init) := ⟨rfl, rfl, rfl, by decide +kernel, rfl, by decide +kernel, by decide +kernel⟩
abbrev s_Rejected_init : Stmt := mth c_Rejected 0
abbrev N_Rejected_init : List Str := ["self", "index"]
abbrev P_Rejected_init : List Str := ["self", "index"]
theorem sc_Rejected_init : FnScope N_Rejected_init P_Rejected_init (defScope s_Rejected_init) := ⟨rfl, rfl, rfl, by decide +kernel, rfl, by decide +kernel, by decide +kernel⟩
abbrev s_BadText_init : Stmt := mth c_BadText 0
abbrev N_BadText_init : List Str := ["self", "index"]
abbrev P_BadText_init : List Str := ["self", "index"]
theorem sc_BadText_init : FnScope N_BadText_init P_BadText_init (defScope s_BadText_init) := ⟨rfl, rfl, rfl, by decide +kernel, rfl, by decide +kernel, by decide +kernel⟩
abbrev s_NoPlace_init : Stmt := mth c_NoPlace 0
abbrev N_NoPlace_init : List Str := ["self", "value"]
abbrev P_NoPlace_init : List Str := ["self", "value"]
theorem sc_NoPlace_init : FnScope N_NoPlace_init P_NoPlace_init (defScope s_NoPlace_init) := ⟨rfl, rfl, rfl, by decide +kernel, rfl, by decide +kernel, by decide +kernel⟩
abbrev s_NoWidth_init : Stmt := mth c_NoWidth 0
abbrev N_NoWidth_init : List Str := ["self", "value"]
abbrev P_NoWidth_init : List Str := ["self", "value"]
theorem sc_NoWidth_init : FnScope N_NoWidth_init P_NoWidth_init (defScope s_NoWidth_init) := ⟨rfl, rfl, rfl, by decide +kernel, rfl, by decide +kernel, by decide +kernel⟩
abbrev s_NoVersion_init : Stmt := mth c_NoVersion 0
abbrev N_NoVersion_init : List Str := ["self", "value"]
abbrev P_NoVersion_init : List Str := ["self", "value"]
theorem sc_NoVersion_init : FnScope N_NoVersion_init P_NoVersion_init (defScope s_NoVersion_init) := ⟨rfl, rfl, rfl, by decide +kernel, rfl, by decide +kernel, by decide +kernel⟩
abbrev s_is_integer : Stmt := top 27
abbrev N_is_integer : List Str := ["value", "low", "high"]
abbrev P_is_integer : List Str := ["value", "low", "high"]
theorem sc_is_integer : FnScope N_is_integer P_is_integer (defScope s_is_integer) := ⟨rfl, rfl, rfl, by decide +kernel, rfl, by decide +kernel, by decide +kernel⟩
abbrev s_is_length : Stmt := top 28
abbrev N_is_length : List Str := ["value"]
abbrev P_is_length : List Str := ["value"]
theorem sc_is_length : FnScope N_is_length P_is_length (defScope s_is_length) := ⟨rfl, rfl, rfl, by decide +kernel, rfl, by decide +kernel, by decide +kernel⟩
abbrev s_row_error : Stmt := top 29
abbrev N_row_error : List Str := ["value", "index", "item"]
abbrev P_row_error : List Str := ["value"]
theorem sc_row_error : FnScope N_row_error P_row_error (defScope s_row_error) := ⟨rfl, rfl, rfl, by decide +kernel, rfl, by decide +kernel, by decide +kernel⟩
abbrev s_check_place : Stmt := top 30
abbrev N_check_place : List Str := ["row", "value"]
abbrev P_check_place : List Str := ["row", "value"]
theorem sc_check_place : FnScope N_check_place P_check_place (defScope s_check_place) := ⟨rfl, rfl, rfl, by decide +kernel, rfl, by decide +kernel, by decide +kernel⟩
abbrev s_extent_of : Stmt := top 31
abbrev N_extent_of : List Str := ["row", "first", "last"]
abbrev P_extent_of : List Str := ["row", "first", "last"]
theorem sc_extent_of : FnScope N_extent_of P_extent_of (defScope s_extent_of) := ⟨rfl, rfl, rfl, by decide +kernel, rfl, by decide +kernel, by decide +kernel⟩
abbrev s_longest : Stmt := top 32
abbrev N_longest : List Str := ["row"]
abbrev P_longest : List Str := ["row"]
theorem sc_longest : FnScope N_longest P_longest (defScope s_longest) := ⟨rfl, rfl, rfl, by decide +kernel, rfl, by decide +kernel, by decide +kernel⟩
abbrev s_check_fits : Stmt := top 35
abbrev N_check_fits : List Str := ["row", "width", "place", "length"]
abbrev P_check_fits : List Str := ["row", "width"]
theorem sc_check_fits : FnScope N_check_fits P_check_fits (defScope s_check_fits) := ⟨rfl, rfl, rfl, by decide +kernel, rfl, by decide +kernel, by decide +kernel⟩
abbrev s_next_start : Stmt := top 36
abbrev N_next_start : List Str := ["row", "width", "start", "following"]
abbrev P_next_start : List Str := ["row", "width", "start"]
theorem sc_next_start : FnScope N_next_start P_next_start (defScope s_next_start) := ⟨rfl, rfl, rfl, by decide +kernel, rfl, by decide +kernel, by decide +kernel⟩
abbrev s_starts_of : Stmt := top 37
abbrev N_starts_of : List Str := ["row", "width", "starts", "following"]
abbrev P_starts_of : List Str := ["row", "width"]
theorem sc_starts_of : FnScope N_starts_of P_starts_of (defScope s_starts_of) := ⟨rfl, rfl, rfl, by decide +kernel, rfl, by decide +kernel, by decide +kernel⟩
abbrev s_starts_at : Stmt := top 38
abbrev N_starts_at : List Str := ["row", "width"]
abbrev P_starts_at : List Str := ["row", "width"]
theorem sc_starts_at : FnScope N_starts_at P_starts_at (defScope s_starts_at) := ⟨rfl, rfl, rfl, by decide +kernel, rfl, by decide +kernel, by decide +kernel⟩
abbrev s_lines_of : Stmt := top 39
abbrev N_lines_of : List Str := ["row", "starts", "ends", "start", "end"]
abbrev P_lines_of : List Str := ["row", "starts"]
theorem sc_lines_of : FnScope N_lines_of P_lines_of (defScope s_lines_of) := ⟨rfl, rfl, rfl, by decide +kernel, rfl, by decide +kernel, by decide +kernel⟩
abbrev s_count_lines : Stmt := top 40
abbrev N_count_lines : List Str := ["row", "width"]
abbrev P_count_lines : List Str := ["row", "width"]
theorem sc_count_lines : FnScope N_count_lines P_count_lines (defScope s_count_lines) := ⟨rfl, rfl, rfl, by decide +kernel, rfl, by decide +kernel, by decide +kernel⟩
abbrev s_next_width : Stmt := top 42
abbrev N_next_width : List Str := ["row", "starts", "widths", "start", "following"]
abbrev P_next_width : List Str := ["row", "starts"]
theorem sc_next_width : FnScope N_next_width P_next_width (defScope s_next_width) := ⟨rfl, rfl, rfl, by decide +kernel, rfl, by decide +kernel, by decide +kernel⟩
abbrev s_book_of : Stmt := top 43
abbrev N_book_of : List Str := ["row", "width", "found", "starts"]
abbrev P_book_of : List Str := ["row"]
theorem sc_book_of : FnScope N_book_of P_book_of (defScope s_book_of) := ⟨rfl, rfl, rfl, by decide +kernel, rfl, by decide +kernel, by decide +kernel⟩
abbrev s_steps_of : Stmt := top 44
abbrev N_steps_of : List Str := ["row", "found", "width", "starts"]
abbrev P_steps_of : List Str := ["row"]
theorem sc_steps_of : FnScope N_steps_of P_steps_of (defScope s_steps_of) := ⟨rfl, rfl, rfl, by decide +kernel, rfl, by decide +kernel, by decide +kernel⟩
abbrev s_row_text : Stmt := top 49
abbrev N_row_text : List Str := ["row", "length"]
abbrev P_row_text : List Str := ["row"]
theorem sc_row_text : FnScope N_row_text P_row_text (defScope s_row_text) := ⟨rfl, rfl, rfl, by decide +kernel, rfl, by decide +kernel, by decide +kernel⟩
abbrev s_parse_number : Stmt := top 50
abbrev N_parse_number : List Str := ["word", "sign"]
abbrev P_parse_number : List Str := ["word"]
theorem sc_parse_number : FnScope N_parse_number P_parse_number (defScope s_parse_number) := ⟨rfl, rfl, rfl, by decide +kernel, rfl, by decide +kernel, by decide +kernel⟩
abbrev s_check_width : Stmt := top 53
abbrev N_check_width : List Str := ["value"]
abbrev P_check_width : List Str := ["value"]
theorem sc_check_width : FnScope N_check_width P_check_width (defScope s_check_width) := ⟨rfl, rfl, rfl, by decide +kernel, rfl, by decide +kernel, by decide +kernel⟩
abbrev s_error_name : Stmt := top 61
abbrev N_error_name : List Str := ["error", "kinds", "is_kind", "name"]
abbrev P_error_name : List Str := ["error"]
theorem sc_error_name : FnScope N_error_name P_error_name (defScope s_error_name) := ⟨rfl, rfl, rfl, by decide +kernel, rfl, by decide +kernel, by decide +kernel⟩
abbrev s_lines_text : Stmt := top 62
abbrev N_lines_text : List Str := ["lines", "line", "length"]
abbrev P_lines_text : List Str := ["lines"]
theorem sc_lines_text : FnScope N_lines_text P_lines_text (defScope s_lines_text) := ⟨rfl, rfl, rfl, by decide +kernel, rfl, by decide +kernel, by decide +kernel⟩
abbrev s_Console_init : Stmt := mth c_Console 0
abbrev N_Console_init : List Str := ["self", "page"]
abbrev P_Console_init : List Str := ["self", "page"]
theorem sc_Console_init : FnScope N_Console_init P_Console_init (defScope s_Console_init) := ⟨rfl, rfl, rfl, by decide +kernel, rfl, by decide +kernel, by decide +kernel⟩
abbrev s_Console_answer_edit : Stmt := mth c_Console 1
abbrev N_Console_answer_edit : List Str := ["self", "name", "values"]
abbrev P_Console_answer_edit : List Str := ["self", "name", "values"]
theorem sc_Console_answer_edit : FnScope N_Console_answer_edit P_Console_answer_edit (defScope s_Console_answer_edit) := ⟨rfl, rfl, rfl, by decide +kernel, rfl, by decide +kernel, by decide +kernel⟩
abbrev s_Console_count_text : Stmt := mth c_Console 2
abbrev N_Console_count_text : List Str := ["self", "width"]
abbrev P_Console_count_text : List Str := ["self", "width"]
theorem sc_Console_count_text : FnScope N_Console_count_text P_Console_count_text (defScope s_Console_count_text) := ⟨rfl, rfl, rfl, by decide +kernel, rfl, by decide +kernel, by decide +kernel⟩
abbrev s_Console_answer_query : Stmt := mth c_Console 3
abbrev N_Console_answer_query : List Str := ["self", "name", "values", "width", "count"]
abbrev P_Console_answer_query : List Str := ["self", "name", "values"]
theorem sc_Console_answer_query : FnScope N_Console_answer_query P_Console_answer_query (defScope s_Console_answer_query) := ⟨rfl, rfl, rfl, by decide +kernel, rfl, by decide +kernel, by decide +kernel⟩
abbrev s_Console_answer : Stmt := mth c_Console 4
abbrev N_Console_answer : List Str := ["self", "line", "values", "error", "name", "others", "other"]
abbrev P_Console_answer : List Str := ["self", "line"]
theorem sc_Console_answer : FnScope N_Console_answer P_Console_answer (defScope s_Console_answer) := ⟨rfl, rfl, rfl, by decide +kernel, rfl, by decide +kernel, by decide +kernel⟩
abbrev s_Console_execute : Stmt := mth c_Console 5
abbrev N_Console_execute : List Str := ["self", "line", "is_text", "result"]
abbrev P_Console_execute : List Str := ["self", "line"]
theorem sc_Console_execute : FnScope N_Console_execute P_Console_execute (defScope s_Console_execute) := ⟨rfl, rfl, rfl, by decide +kernel, rfl, by decide +kernel, by decide +kernel⟩
abbrev s_check_length : Stmt := top 65
abbrev N_check_length : List Str := ["value"]
abbrev P_check_length : List Str := ["value"]
theorem sc_check_length : FnScope N_check_length P_check_length (defScope s_check_length) := ⟨rfl, rfl, rfl, by decide +kernel, rfl, by decide +kernel, by decide +kernel⟩
abbrev s_changed : Stmt := top 66
abbrev N_changed : List Str := ["row", "place", "length"]
abbrev P_changed : List Str := ["row", "place", "length"]
theorem sc_changed : FnScope N_changed P_changed (defScope s_changed) := ⟨rfl, rfl, rfl, by decide +kernel, rfl, by decide +kernel, by decide +kernel⟩
abbrev s_put_in : Stmt := top 67
abbrev N_put_in : List Str := ["row", "place", "length"]
abbrev P_put_in : List Str := ["row", "place", "length"]
theorem sc_put_in : FnScope N_put_in P_put_in (defScope s_put_in) := ⟨rfl, rfl, rfl, by decide +kernel, rfl, by decide +kernel, by decide +kernel⟩
abbrev s_taken_out : Stmt := top 68
abbrev N_taken_out : List Str := ["row", "place"]
abbrev P_taken_out : List Str := ["row", "place"]
theorem sc_taken_out : FnScope N_taken_out P_taken_out (defScope s_taken_out) := ⟨rfl, rfl, rfl, by decide +kernel, rfl, by decide +kernel, by decide +kernel⟩
abbrev s_is_edit : Stmt := top 71
abbrev N_is_edit : List Str := ["value"]
abbrev P_is_edit : List Str := ["value"]
theorem sc_is_edit : FnScope N_is_edit P_is_edit (defScope s_is_edit) := ⟨rfl, rfl, rfl, by decide +kernel, rfl, by decide +kernel, by decide +kernel⟩
abbrev s_edited : Stmt := top 73
abbrev N_edited : List Str := ["row", "edit", "name", "values"]
abbrev P_edited : List Str := ["row", "edit"]
theorem sc_edited : FnScope N_edited P_edited (defScope s_edited) := ⟨rfl, rfl, rfl, by decide +kernel, rfl, by decide +kernel, by decide +kernel⟩
abbrev s_Page_init : Stmt := mth c_Page 2
abbrev N_Page_init : List Str := ["self", "row", "error"]
abbrev P_Page_init : List Str := ["self", "row"]
theorem sc_Page_init : FnScope N_Page_init P_Page_init (defScope s_Page_init) := ⟨rfl, rfl, rfl, by decide +kernel, rfl, by decide +kernel, by decide +kernel⟩
abbrev s_Page_row : Stmt := mth c_Page 5
abbrev N_Page_row : List Str := ["self"]
abbrev P_Page_row : List Str := ["self"]
theorem sc_Page_row : FnScope N_Page_row P_Page_row (defScope s_Page_row) := ⟨rfl, rfl, rfl, by decide +kernel, rfl, by decide +kernel, by decide +kernel⟩
abbrev s_Page_size : Stmt := mth c_Page 6
abbrev N_Page_size : List Str := ["self"]
abbrev P_Page_size : List Str := ["self"]
theorem sc_Page_size : FnScope N_Page_size P_Page_size (defScope s_Page_size) := ⟨rfl, rfl, rfl, by decide +kernel, rfl, by decide +kernel, by decide +kernel⟩
abbrev s_Page_version : Stmt := mth c_Page 7
abbrev N_Page_version : List Str := ["self"]
abbrev P_Page_version : List Str := ["self"]
theorem sc_Page_version : FnScope N_Page_version P_Page_version (defScope s_Page_version) := ⟨rfl, rfl, rfl, by decide +kernel, rfl, by decide +kernel, by decide +kernel⟩
abbrev s_Page_width : Stmt := mth c_Page 8
abbrev N_Page_width : List Str := ["self"]
abbrev P_Page_width : List Str := ["self"]
theorem sc_Page_width : FnScope N_Page_width P_Page_width (defScope s_Page_width) := ⟨rfl, rfl, rfl, by decide +kernel, rfl, by decide +kernel, by decide +kernel⟩
abbrev s_Page_width_set : Stmt := mth c_Page 9
abbrev N_Page_width_set : List Str := ["self", "value"]
abbrev P_Page_width_set : List Str := ["self", "value"]
theorem sc_Page_width_set : FnScope N_Page_width_set P_Page_width_set (defScope s_Page_width_set) := ⟨rfl, rfl, rfl, by decide +kernel, rfl, by decide +kernel, by decide +kernel⟩
abbrev s_Page_lines : Stmt := mth c_Page 10
abbrev N_Page_lines : List Str := ["self"]
abbrev P_Page_lines : List Str := ["self"]
theorem sc_Page_lines : FnScope N_Page_lines P_Page_lines (defScope s_Page_lines) := ⟨rfl, rfl, rfl, by decide +kernel, rfl, by decide +kernel, by decide +kernel⟩
abbrev s_Page_look : Stmt := mth c_Page 11
abbrev N_Page_look : List Str := ["self", "value"]
abbrev P_Page_look : List Str := ["self", "value"]
theorem sc_Page_look : FnScope N_Page_look P_Page_look (defScope s_Page_look) := ⟨rfl, rfl, rfl, by decide +kernel, rfl, by decide +kernel, by decide +kernel⟩
abbrev s_Page_accept : Stmt := mth c_Page 12
abbrev N_Page_accept : List Str := ["self", "row"]
abbrev P_Page_accept : List Str := ["self", "row"]
theorem sc_Page_accept : FnScope N_Page_accept P_Page_accept (defScope s_Page_accept) := ⟨rfl, rfl, rfl, by decide +kernel, rfl, by decide +kernel, by decide +kernel⟩
abbrev s_Page_check_idle : Stmt := mth c_Page 13
abbrev N_Page_check_idle : List Str := ["self"]
abbrev P_Page_check_idle : List Str := ["self"]
theorem sc_Page_check_idle : FnScope N_Page_check_idle P_Page_check_idle (defScope s_Page_check_idle) := ⟨rfl, rfl, rfl, by decide +kernel, rfl, by decide +kernel, by decide +kernel⟩
abbrev s_Page_perform : Stmt := mth c_Page 14
abbrev N_Page_perform : List Str := ["self", "edit", "row"]
abbrev P_Page_perform : List Str := ["self", "edit"]
theorem sc_Page_perform : FnScope N_Page_perform P_Page_perform (defScope s_Page_perform) := ⟨rfl, rfl, rfl, by decide +kernel, rfl, by decide +kernel, by decide +kernel⟩
abbrev s_Page_perform_alone : Stmt := mth c_Page 15
abbrev N_Page_perform_alone : List Str := ["self", "edit"]
abbrev P_Page_perform_alone : List Str := ["self", "edit"]
theorem sc_Page_perform_alone : FnScope N_Page_perform_alone P_Page_perform_alone (defScope s_Page_perform_alone) := ⟨rfl, rfl, rfl, by decide +kernel, rfl, by decide +kernel, by decide +kernel⟩
abbrev s_Page_put : Stmt := mth c_Page 16
abbrev N_Page_put : List Str := ["self", "place", "length"]
abbrev P_Page_put : List Str := ["self", "place", "length"]
theorem sc_Page_put : FnScope N_Page_put P_Page_put (defScope s_Page_put) := ⟨rfl, rfl, rfl, by decide +kernel, rfl, by decide +kernel, by decide +kernel⟩
abbrev s_Page_cut : Stmt := mth c_Page 17
abbrev N_Page_cut : List Str := ["self", "place"]
abbrev P_Page_cut : List Str := ["self", "place"]
theorem sc_Page_cut : FnScope N_Page_cut P_Page_cut (defScope s_Page_cut) := ⟨rfl, rfl, rfl, by decide +kernel, rfl, by decide +kernel, by decide +kernel⟩
abbrev s_Page_resize : Stmt := mth c_Page 18
abbrev N_Page_resize : List Str := ["self", "place", "length"]
abbrev P_Page_resize : List Str := ["self", "place", "length"]
theorem sc_Page_resize : FnScope N_Page_resize P_Page_resize (defScope s_Page_resize) := ⟨rfl, rfl, rfl, by decide +kernel, rfl, by decide +kernel, by decide +kernel⟩
abbrev s_Page_turn : Stmt := mth c_Page 19
abbrev N_Page_turn : List Str := ["self"]
abbrev P_Page_turn : List Str := ["self"]
theorem sc_Page_turn : FnScope N_Page_turn P_Page_turn (defScope s_Page_turn) := ⟨rfl, rfl, rfl, by decide +kernel, rfl, by decide +kernel, by decide +kernel⟩
abbrev s_Page_undo : Stmt := mth c_Page 20
abbrev N_Page_undo : List Str := ["self"]
abbrev P_Page_undo : List Str := ["self"]
theorem sc_Page_undo : FnScope N_Page_undo P_Page_undo (defScope s_Page_undo) := ⟨rfl, rfl, rfl, by decide +kernel, rfl, by decide +kernel, by decide +kernel⟩
abbrev s_Page_step : Stmt := mth c_Page 21
abbrev N_Page_step : List Str := ["self", "index", "edit", "on_step", "error"]
abbrev P_Page_step : List Str := ["self", "index", "edit", "on_step"]
theorem sc_Page_step : FnScope N_Page_step P_Page_step (defScope s_Page_step) := ⟨rfl, rfl, rfl, by decide +kernel, rfl, by decide +kernel, by decide +kernel⟩
abbrev s_Page_run : Stmt := mth c_Page 22
abbrev N_Page_run : List Str := ["self", "edits", "on_step", "batch", "index", "edit", "now", "states", "done", "wanted", "finished"]
abbrev P_Page_run : List Str := ["self", "edits", "on_step"]
theorem sc_Page_run : FnScope N_Page_run P_Page_run (defScope s_Page_run) := ⟨rfl, rfl, rfl, by decide +kernel, rfl, by decide +kernel, by decide +kernel⟩
abbrev s_Page_edits : Stmt := mth c_Page 24
abbrev N_Page_edits : List Str := ["self"]
abbrev P_Page_edits : List Str := ["self"]
theorem sc_Page_edits : FnScope N_Page_edits P_Page_edits (defScope s_Page_edits) := ⟨rfl, rfl, rfl, by decide +kernel, rfl, by decide +kernel, by decide +kernel⟩
abbrev s_Page_getitem : Stmt := mth c_Page 29
abbrev N_Page_getitem : List Str := ["self", "place"]
abbrev P_Page_getitem : List Str := ["self", "place"]
theorem sc_Page_getitem : FnScope N_Page_getitem P_Page_getitem (defScope s_Page_getitem) := ⟨rfl, rfl, rfl, by decide +kernel, rfl, by decide +kernel, by decide +kernel⟩
abbrev s_Page_len : Stmt := mth c_Page 32
abbrev N_Page_len : List Str := ["self"]
abbrev P_Page_len : List Str := ["self"]
theorem sc_Page_len : FnScope N_Page_len P_Page_len (defScope s_Page_len) := ⟨rfl, rfl, rfl, by decide +kernel, rfl, by decide +kernel, by decide +kernel⟩
abbrev s_Page_str : Stmt := mth c_Page 33
abbrev N_Page_str : List Str := ["self"]
abbrev P_Page_str : List Str := ["self"]
theorem sc_Page_str : FnScope N_Page_str P_Page_str (defScope s_Page_str) := ⟨rfl, rfl, rfl, by decide +kernel, rfl, by decide +kernel, by decide +kernel⟩
abbrev s_Page_eq : Stmt := mth c_Page 34
abbrev N_Page_eq : List Str := ["self", "other"]
abbrev P_Page_eq : List Str := ["self", "other"]
theorem sc_Page_eq : FnScope N_Page_eq P_Page_eq (defScope s_Page_eq) := ⟨rfl, rfl, rfl, by decide +kernel, rfl, by decide +kernel, by decide +kernel⟩
abbrev s_NarrowPage_accept : Stmt := mth c_NarrowPage 1
abbrev N_NarrowPage_accept : List Str := ["self", "row", "place", "length"]
abbrev P_NarrowPage_accept : List Str := ["self", "row"]
theorem sc_NarrowPage_accept : FnScope N_NarrowPage_accept P_NarrowPage_accept (defScope s_NarrowPage_accept) := ⟨rfl, rfl, rfl, by decide +kernel, rfl, by decide +kernel, by decide +kernel⟩
abbrev s_LoggedPage_init : Stmt := mth c_LoggedPage 0
abbrev N_LoggedPage_init : List Str := ["self", "row"]
abbrev P_LoggedPage_init : List Str := ["self", "row"]
abbrev s_LoggedPage_log : Stmt := mth c_LoggedPage 1
abbrev N_LoggedPage_log : List Str := ["self"]
abbrev P_LoggedPage_log : List Str := ["self"]
theorem sc_LoggedPage_log : FnScope N_LoggedPage_log P_LoggedPage_log (defScope s_LoggedPage_log) := ⟨rfl, rfl, rfl, by decide +kernel, rfl, by decide +kernel, by decide +kernel⟩
abbrev s_LoggedPage_noted : Stmt := mth c_LoggedPage 2
abbrev N_LoggedPage_noted : List Str := ["self", "name", "version"]
abbrev P_LoggedPage_noted : List Str := ["self", "name", "version"]
theorem sc_LoggedPage_noted : FnScope N_LoggedPage_noted P_LoggedPage_noted (defScope s_LoggedPage_noted) := ⟨rfl, rfl, rfl, by decide +kernel, rfl, by decide +kernel, by decide +kernel⟩
abbrev s_LoggedPage_put : Stmt := mth c_LoggedPage 3
abbrev N_LoggedPage_put : List Str := ["self", "place", "length"]
abbrev P_LoggedPage_put : List Str := ["self", "place", "length"]
abbrev s_LoggedPage_cut : Stmt := mth c_LoggedPage 4
abbrev N_LoggedPage_cut : List Str := ["self", "place"]
abbrev P_LoggedPage_cut : List Str := ["self", "place"]
abbrev s_LoggedPage_resize : Stmt := mth c_LoggedPage 5
abbrev N_LoggedPage_resize : List Str := ["self", "place", "length"]
abbrev P_LoggedPage_resize : List Str := ["self", "place", "length"]
abbrev s_LoggedPage_turn : Stmt := mth c_LoggedPage 6
abbrev N_LoggedPage_turn : List Str := ["self"]
abbrev P_LoggedPage_turn : List Str := ["self"]
abbrev s_LoggedPage_undo : Stmt := mth c_LoggedPage 7
abbrev N_LoggedPage_undo : List Str := ["self"]
abbrev P_LoggedPage_undo : List Str := ["self"]
abbrev s_LoggedPage_run : Stmt := mth c_LoggedPage 8
abbrev N_LoggedPage_run : List Str := ["self", "edits", "on_step"]
abbrev P_LoggedPage_run : List Str := ["self", "edits", "on_step"]
abbrev s__law_stream : Stmt := top 79
abbrev N__law_stream : List Str := ["_law_script", "_law_cells", "_law_cell"]
abbrev P__law_stream : List Str := ["_law_script"]
theorem sc__law_stream : FnScope N__law_stream P__law_stream (defScope s__law_stream) := ⟨rfl, rfl, rfl, by decide +kernel, rfl, by decide +kernel, by decide +kernel⟩
abbrev s__law_draw : Stmt := top 80
abbrev N__law_draw : List Str := ["_law_stream_here", "_law_many", "_law_turn", "_law_cell", "_law_mixed", "_law_rest"]
abbrev P__law_draw : List Str := ["_law_stream_here", "_law_many"]
theorem sc__law_draw : FnScope N__law_draw P__law_draw (defScope s__law_draw) := ⟨rfl, rfl, rfl, by decide +kernel, rfl, by decide +kernel, by decide +kernel⟩
abbrev s__law_pick : Stmt := top 81
abbrev N__law_pick : List Str := ["_law_stream_here", "_law_items"]
abbrev P__law_pick : List Str := ["_law_stream_here", "_law_items"]
theorem sc__law_pick : FnScope N__law_pick P__law_pick (defScope s__law_pick) := ⟨rfl, rfl, rfl, by decide +kernel, rfl, by decide +kernel, by decide +kernel⟩
abbrev s__law_row_drawn : Stmt := top 82
abbrev N__law_row_drawn : List Str := ["_law_stream_here", "_law_most", "_law_top", "_law_found", "_law_size", "_law_way", "_law_part", "_law_k"]
abbrev P__law_row_drawn : List Str := ["_law_stream_here", "_law_most"]
theorem sc__law_row_drawn : FnScope N__law_row_drawn P__law_row_drawn (defScope s__law_row_drawn) := ⟨rfl, rfl, rfl, by decide +kernel, rfl, by decide +kernel, by decide +kernel⟩
abbrev s__law_width_drawn : Stmt := top 83
abbrev N__law_width_drawn : List Str := ["_law_stream_here", "_law_row", "_law_first", "_law_last", "_law_wide", "_law_some"]
abbrev P__law_width_drawn : List Str := ["_law_stream_here", "_law_row"]
theorem sc__law_width_drawn : FnScope N__law_width_drawn P__law_width_drawn (defScope s__law_width_drawn) := ⟨rfl, rfl, rfl, by decide +kernel, rfl, by decide +kernel, by decide +kernel⟩
abbrev s__law_name : Stmt := top 84
abbrev N__law_name : List Str := ["_law_error", "_law_names", "_law_flags", "_law_bases"]
abbrev P__law_name : List Str := ["_law_error"]
theorem sc__law_name : FnScope N__law_name P__law_name (defScope s__law_name) := ⟨rfl, rfl, rfl, by decide +kernel, rfl, by decide +kernel, by decide +kernel⟩
abbrev s__law_field : Stmt := top 85
abbrev N__law_field : List Str := ["_law_error"]
abbrev P__law_field : List Str := ["_law_error"]
theorem sc__law_field : FnScope N__law_field P__law_field (defScope s__law_field) := ⟨rfl, rfl, rfl, by decide +kernel, rfl, by decide +kernel, by decide +kernel⟩
abbrev s__law_apply : Stmt := top 86
abbrev N__law_apply : List Str := ["_law_page", "_law_edit_here"]
abbrev P__law_apply : List Str := ["_law_page", "_law_edit_here"]
theorem sc__law_apply : FnScope N__law_apply P__law_apply (defScope s__law_apply) := ⟨rfl, rfl, rfl, by decide +kernel, rfl, by decide +kernel, by decide +kernel⟩
abbrev s__law_did : Stmt := top 87
abbrev N__law_did : List Str := ["_law_page", "_law_edit_here", "_law_error"]
abbrev P__law_did : List Str := ["_law_page", "_law_edit_here"]
theorem sc__law_did : FnScope N__law_did P__law_did (defScope s__law_did) := ⟨rfl, rfl, rfl, by decide +kernel, rfl, by decide +kernel, by decide +kernel⟩
abbrev s__law_seen : Stmt := top 88
abbrev N__law_seen : List Str := ["_law_page"]
abbrev P__law_seen : List Str := ["_law_page"]
theorem sc__law_seen : FnScope N__law_seen P__law_seen (defScope s__law_seen) := ⟨rfl, rfl, rfl, by decide +kernel, rfl, by decide +kernel, by decide +kernel⟩
abbrev s__law_edit : Stmt := top 89
abbrev N__law_edit : List Str := ["_law_stream_here", "_law_row", "_law_length", "_law_place", "_law_name_here"]
abbrev P__law_edit : List Str := ["_law_stream_here", "_law_row"]
theorem sc__law_edit : FnScope N__law_edit P__law_edit (defScope s__law_edit) := ⟨rfl, rfl, rfl, by decide +kernel, rfl, by decide +kernel, by decide +kernel⟩
abbrev s__law_made : Stmt := top 90
abbrev N__law_made : List Str := ["_law_kind", "_law_row"]
abbrev P__law_made : List Str := ["_law_kind", "_law_row"]
theorem sc__law_made : FnScope N__law_made P__law_made (defScope s__law_made) := ⟨rfl, rfl, rfl, by decide +kernel, rfl, by decide +kernel, by decide +kernel⟩
abbrev s__law_start : Stmt := top 91
abbrev N__law_start : List Str := ["_law_stream_here", "_law_kind", "_law_most", "_law_row", "_law_length"]
abbrev P__law_start : List Str := ["_law_stream_here", "_law_kind", "_law_most"]
theorem sc__law_start : FnScope N__law_start P__law_start (defScope s__law_start) := ⟨rfl, rfl, rfl, by decide +kernel, rfl, by decide +kernel, by decide +kernel⟩
abbrev s__law_said : Stmt := top 92
abbrev N__law_said : List Str := ["_law_outcome"]
abbrev P__law_said : List Str := ["_law_outcome"]
theorem sc__law_said : FnScope N__law_said P__law_said (defScope s__law_said) := ⟨rfl, rfl, rfl, by decide +kernel, rfl, by decide +kernel, by decide +kernel⟩
abbrev s__law_line : Stmt := top 93
abbrev N__law_line : List Str := ["_law_edit_here", "_law_part"]
abbrev P__law_line : List Str := ["_law_edit_here"]
theorem sc__law_line : FnScope N__law_line P__law_line (defScope s__law_line) := ⟨rfl, rfl, rfl, by decide +kernel, rfl, by decide +kernel, by decide +kernel⟩
abbrev s__law_shown_lines : Stmt := top 94
abbrev N__law_shown_lines : List Str := ["_law_lines", "_law_line_here", "_law_length"]
abbrev P__law_shown_lines : List Str := ["_law_lines"]
theorem sc__law_shown_lines : FnScope N__law_shown_lines P__law_shown_lines (defScope s__law_shown_lines) := ⟨rfl, rfl, rfl, by decide +kernel, rfl, by decide +kernel, by decide +kernel⟩
abbrev s__law_query : Stmt := top 95
abbrev N__law_query : List Str := ["_law_page", "_law_line_here", "_law_words", "_law_texts", "_law_width", "_law_count"]
abbrev P__law_query : List Str := ["_law_page", "_law_line_here"]
theorem sc__law_query : FnScope N__law_query P__law_query (defScope s__law_query) := ⟨rfl, rfl, rfl, by decide +kernel, rfl, by decide +kernel, by decide +kernel⟩
abbrev s__law_queries_right : Stmt := top 96
abbrev N__law_queries_right : List Str := ["_law_stream_here", "_law_console", "_law_page", "_law_count", "_law_lines", "_law_line_here"]
abbrev P__law_queries_right : List Str := ["_law_stream_here", "_law_console", "_law_page"]
theorem sc__law_queries_right : FnScope N__law_queries_right P__law_queries_right (defScope s__law_queries_right) := ⟨rfl, rfl, rfl, by decide +kernel, rfl, by decide +kernel, by decide +kernel⟩
abbrev s__law_look : Stmt := top 97
abbrev N__law_look : List Str := ["_law_page", "_law_width"]
abbrev P__law_look : List Str := ["_law_page", "_law_width"]
theorem sc__law_look : FnScope N__law_look P__law_look (defScope s__law_look) := ⟨rfl, rfl, rfl, by decide +kernel, rfl, by decide +kernel, by decide +kernel⟩
abbrev s__law_looked : Stmt := top 98
abbrev N__law_looked : List Str := ["_law_stream_here", "_law_page", "_law_consoles", "_law_width", "_law_way"]
abbrev P__law_looked : List Str := ["_law_stream_here", "_law_page", "_law_consoles", "_law_width"]
theorem sc__law_looked : FnScope N__law_looked P__law_looked (defScope s__law_looked) := ⟨rfl, rfl, rfl, by decide +kernel, rfl, by decide +kernel, by decide +kernel⟩
abbrev s__law_hear : Stmt := top 99
abbrev N__law_hear : List Str := ["_law_stream_here", "_law_one", "_law_notes", "_law_found", "_law_right", "_law_width", "_law_due", "_law_console", "_law_other", "_law_edits", "_law_heard", "_law_line_here"]
abbrev P__law_hear : List Str := ["_law_stream_here", "_law_one", "_law_notes"]
theorem sc__law_hear : FnScope N__law_hear P__law_hear (defScope s__law_hear) := ⟨rfl, rfl, rfl, by decide +kernel, rfl, by decide +kernel, by decide +kernel⟩
abbrev s__law_busy_right : Stmt := top 100
abbrev N__law_busy_right : List Str := ["_law_stream_here", "_law_console", "_law_page", "_law_other", "_law_edits", "_law_heard"]
abbrev P__law_busy_right : List Str := ["_law_stream_here", "_law_console", "_law_page", "_law_other"]
theorem sc__law_busy_right : FnScope N__law_busy_right P__law_busy_right (defScope s__law_busy_right) := ⟨rfl, rfl, rfl, by decide +kernel, rfl, by decide +kernel, by decide +kernel⟩
abbrev s_law : Stmt := top 101
abbrev N_law : List Str := ["_law_script", "_law_stream_here", "_law_kind", "_law_row", "_law_console", "_law_k", "_law_page", "_law_other", "_law_edit_here", "_law_way", "_law_width", "_law_due", "_law_found"]
abbrev P_law : List Str := ["_law_script"]
theorem sc_law : FnScope N_law P_law (defScope s_law) := ⟨rfl, rfl, rfl, by decide +kernel, rfl, by decide +kernel, by decide +kernel⟩
end TX
end
section
/-! what the functions compute, plainly -/
namespace MM
open PySem
def rowD (r : List Int) : PyData := .tuple (r.map .int)
def natsD (l : List Nat) : PyData := .tuple ((l.map Int.ofNat).map .int)
structure RowOk (r : List Int) : Prop where
  pos : 1 ≤ r.length
  few : r.length ≤ 24
  all : ∀ x ∈ r, 1 ≤ x ∧ x ≤ 60
/-- the extent of the words s .. f -/
def ext (r : List Int) (s f : Nat) : Int := ((r.drop s).take (f + 1 - s)).sum + f - s
/-- where the line from s ends, from k on -/
def nf (r : List Int) (w : Int) (s k : Nat) : Nat := if k < r.length ∧ ext r s k ≤ w then nf r w s (k + 1) else k
termination_by r.length - k
def nextStart (r : List Int) (w : Int) (s : Nat) : Nat := nf r w s (s + 1)
theorem nf_le (r : List Int) (w : Int) (s k : Nat) : k ≤ nf r w s k := by
  unfold nf
  split
  · exact Nat.le_trans (Nat.le_succ k) (nf_le r w s (k + 1))
  · exact Nat.le_refl k
termination_by r.length - k
theorem nf_max (r : List Int) (w : Int) (s k : Nat) (h : k ≤ r.length) : nf r w s k ≤ r.length := by
  unfold nf
  split
  · rename_i q
    exact nf_max r w s (k + 1) q.1
  · exact h
termination_by r.length - k
theorem nf_end (r : List Int) (w : Int) (s k : Nat) (h : nf r w s k < r.length) : w < ext r s (nf r w s k) := by
  unfold nf at h ⊢
  split
  · rename_i q
    rw [if_pos q] at h
    exact nf_end r w s (k + 1) h
  · rename_i q
    rw [if_neg q] at h
    have : ¬ ext r s k ≤ w := fun z => q ⟨h, z⟩
    omega
termination_by r.length - k
theorem lt_next (r : List Int) (w : Int) (s : Nat) : s < nextStart r w s := nf_le r w s (s + 1)
/-- the starts behind k -/
def so (r : List Int) (w : Int) (k : Nat) : List Nat := if k < r.length then k :: so r w (nextStart r w k) else []
termination_by r.length - k
decreasing_by
  have := lt_next r w k
  omega
def starts (r : List Int) (w : Int) : List Nat := 0 :: so r w (nextStart r w 0)
/-- the slices from each start to the next -/
def cuts (r : List Int) (ss es : List Nat) : List (List Int) := (ss.zip es).map fun p => (r.drop p.1).take (p.2 - p.1)
def rowLines (r : List Int) (ss : List Nat) : List (List Int) := cuts r ss (ss.tail ++ [r.length])
def widths (r : List Int) (ss : List Nat) : List Int := (ss.zip ss.tail).map fun p => ext r p.1 p.2
def minI (ns : List Int) : Int := ns.foldl min (ns.headD 0)
def maxI (ns : List Int) : Int := ns.foldl max (ns.headD 0)
def nextWidth (r : List Int) (ss : List Nat) : Option Int := if widths r ss = [] then none else some (minI (widths r ss))
/-- the book from the width w on -/
def book (r : List Int) (w : Int) : List (Int × List Nat) :=
  (w, starts r w) :: match nextWidth r (starts r w) with
    | none => []
    | some w' => if w < w' ∧ w' ≤ 3000 then book r w' else []
termination_by (3000 - w).toNat
decreasing_by
  omega
def bookOf (r : List Int) : List (Int × List Nat) := book r (maxI r)
def stepAdd (acc : List (Int × Nat)) (p : Int × List Nat) : List (Int × Nat) := if acc = [] ∨ (acc.getLast?.map (·.2)) ≠ some p.2.length then acc ++ [(p.1, p.2.length)] else acc
def stepsOf (r : List Int) : List (Int × Nat) := (bookOf r).foldl stepAdd []
end MM
end
section
namespace MM
open PySem
def sI (i : Int) : Str := (toString i : String)
def dig (c : Nat) : Bool := decide (48 ≤ c) && decide (c ≤ 57)
def chk (n : Nat) : Bool := decide ((sI n).length ≤ 4) && decide (1 ≤ (sI n).length) && (sI n).cps.toList.all dig && decide (PySem.intText? (sI n) = some (n : Int))
theorem chk_all : (List.range 2101).all chk = true := by decide +kernel
end MM
namespace MM
open PySem
structure NumOk (n : Nat) : Prop where
  four : (sI n).length ≤ 4
  one : 1 ≤ (sI n).length
  digs : ∀ c ∈ (sI n).cps.toList, 48 ≤ c ∧ c ≤ 57
  val : PySem.intText? (sI n) = some (n : Int)
theorem numOk {n : Nat} (h : n < 2101) : NumOk n := by
  have z := List.all_eq_true.mp chk_all n (List.mem_range.mpr h)
  simp only [chk, Bool.and_eq_true, decide_eq_true_eq, List.all_eq_true, dig] at z
  obtain ⟨⟨⟨h1, h2⟩, h3⟩, h4⟩ := z
  exact ⟨h1, h2, fun c hc => h3 c hc, h4⟩
def digits : Str := "0123456789"
theorem dig_in {c : Nat} (h : 48 ≤ c ∧ c ≤ 57) : decide (c ∈ digits.cps.toList) = true := by
  have z : ∀ c ∈ List.range 58, 48 ≤ c → decide (c ∈ digits.cps.toList) = true := by decide +kernel
  exact z c (List.mem_range.mpr (by omega)) h.1
def rowText (r : List Int) : Str := Txt.join " " ("row" :: r.map sI)
def linesText : Option (List (List Int)) → Str
  | none => "none"
  | some ls => Txt.join " / " (ls.map fun l => Txt.join " " (l.map sI))
theorem sumlen_le {l : List Str} {k : Nat} (h : ∀ x ∈ l, x.length ≤ k) : (l.map (·.length)).sum ≤ k * l.length := by
  induction l with
  | nil => simp
  | cons a l ih =>
    have h1 := h a (List.mem_cons_self ..)
    have h2 := ih fun x hx => h x (List.mem_cons_of_mem _ hx)
    rw [List.map_cons, List.sum_cons, List.length_cons, Nat.mul_succ]
    omega
theorem sI_nat {i : Int} (h0 : 0 ≤ i) (h1 : i ≤ 2100) : NumOk i.toNat ∧ sI i = sI (i.toNat : Nat) := by
  have e : ((i.toNat : Nat) : Int) = i := Int.toNat_of_nonneg h0
  exact ⟨numOk (by omega), by rw [e]⟩
theorem sI_len {i : Int} (h0 : 0 ≤ i) (h1 : i ≤ 2100) : (sI i).length ≤ 4 := by
  obtain ⟨a, b⟩ := sI_nat h0 h1
  rw [b]
  exact a.four
theorem join_len (sep : Str) (l : List Str) (k : Nat) (h : ∀ x ∈ l, x.length ≤ k) : (Txt.join sep l).length ≤ (k + sep.length) * l.length := by
  have h1 : (Txt.join sep l).length = (l.map (·.length)).sum + (l.length - 1) * sep.length := PySem.size_glued sep l
  have h2 := sumlen_le h
  rw [h1, Nat.add_mul]
  have h3 : (l.length - 1) * sep.length ≤ sep.length * l.length := by
    rw [Nat.mul_comm sep.length]
    exact Nat.mul_le_mul_right _ (by omega)
  omega
end MM
end
section
namespace MM
open PySem
def wordOk (x : Str) : Prop := 32 ∉ TL.tl x
inductive Edit where
  | put (p l : Int)
  | cut (p : Int)
  | resize (p l : Int)
  | turn
  | undo
/-- the parts of an edit -/
def Edit.parts : Edit → List PyData
  | .put p l => [.str "put", .int p, .int l]
  | .cut p => [.str "cut", .int p]
  | .resize p l => [.str "resize", .int p, .int l]
  | .turn => [.str "turn"]
  | .undo => [.str "undo"]
def edD (e : Edit) : PyData := .tuple e.parts
def partText : PyData → Str
  | .int i => sI i
  | .str x => x
  | _ => ""
def small (i : Int) : Prop := 0 ≤ i ∧ i ≤ 2100
def Edit.ok : Edit → Prop
  | .put p l => small p ∧ small l
  | .cut p => small p
  | .resize p l => small p ∧ small l
  | _ => True
/-- a part as the texts know it -/
def PartOk : PyData → Prop
  | .int i => small i
  | .str x => x.length ≤ 40
  | _ => False
theorem parts_ok {e : Edit} (h : e.ok) : ∀ d ∈ e.parts, PartOk d := by
  cases e <;> simp only [Edit.parts, Edit.ok, List.mem_cons, List.not_mem_nil, or_false] at h ⊢
  · rintro d (rfl | rfl | rfl)
    · exact (by decide : ("put" : Str).length ≤ 40)
    · exact h.1
    · exact h.2
  · rintro d (rfl | rfl)
    · exact (by decide : ("cut" : Str).length ≤ 40)
    · exact h
  · rintro d (rfl | rfl | rfl)
    · exact (by decide : ("resize" : Str).length ≤ 40)
    · exact h.1
    · exact h.2
  · rintro d rfl
    exact (by decide : ("turn" : Str).length ≤ 40)
  · rintro d rfl
    exact (by decide : ("undo" : Str).length ≤ 40)
theorem parts_few (e : Edit) : e.parts.length ≤ 3 := by cases e <;> simp [Edit.parts]
def lineText (ps : List PyData) : Str := Txt.join " " (ps.map partText)
theorem partText_len {d : PyData} (h : PartOk d) : (partText d).length ≤ 40 := by
  cases d with
  | int i => exact Nat.le_trans (sI_len h.1 h.2) (by decide)
  | str x => exact h
  | _ => exact h.elim
/-- the words of a line come back -/
theorem num_word {i : Int} (h : small i) : wordOk (sI i) := by
  obtain ⟨a, b⟩ := sI_nat h.1 h.2
  unfold wordOk
  rw [b]
  intro z
  have := a.digs 32 z
  omega
theorem split_words {l : List Str} (h0 : l ≠ []) (h : ∀ x ∈ l, wordOk x) : Txt.split (Txt.join " " l) " " = l := TL.split_join (s := 32) (S := []) rfl (by decide +kernel) h0 h

end MM
end
section
namespace MM
open PySem
/-- why an edit fails -/
inductive Bad where
  | noPlace | tooMany | lastWord | tooLong | tooManyEdits | nothing | busy | noWidth | tooNarrow
deriving DecidableEq
def Bad.name : Bad → Str
  | .noPlace => "NoPlace" | .tooMany => "TooMany" | .lastWord => "LastWord" | .tooLong => "TooLong" | .tooManyEdits => "TooManyEdits" | .nothing => "NothingToUndo" | .busy => "Busy" | .noWidth => "NoWidth" | .tooNarrow => "TooNarrow"
/-- the row after an edit -/
def editR (r : List Int) : Edit → Except Bad (List Int)
  | .put p l => if 0 ≤ p ∧ p ≤ r.length then if r.length = 24 then .error .tooMany else .ok (r.take p.toNat ++ l :: r.drop p.toNat) else .error .noPlace
  | .cut p => if 0 ≤ p ∧ p < r.length then if r.length = 1 then .error .lastWord else .ok (r.take p.toNat ++ r.drop (p.toNat + 1)) else .error .noPlace
  | .resize p l => if 0 ≤ p ∧ p < r.length then .ok (r.take p.toNat ++ l :: r.drop (p.toNat + 1)) else .error .noPlace
  | .turn => .ok r.reverse
  | .undo => .error .nothing
/-- an edit the law makes -/
def Edit.fit : Edit → Prop
  | .put p l => small p ∧ 1 ≤ l ∧ l ≤ 60
  | .cut p => small p
  | .resize p l => small p ∧ 1 ≤ l ∧ l ≤ 60
  | .turn => True
  | .undo => False
theorem editR_ok {r r' : List Int} {e : Edit} (hr : RowOk r) (he : e.fit) (h : editR r e = .ok r') : RowOk r' := by
  obtain ⟨h1, h2, h3⟩ := hr
  have tk : ∀ n, ∀ x ∈ r.take n, 1 ≤ x ∧ x ≤ 60 := fun n x hx => h3 x (List.mem_of_mem_take hx)
  have dr : ∀ n, ∀ x ∈ r.drop n, 1 ≤ x ∧ x ≤ 60 := fun n x hx => h3 x (List.mem_of_mem_drop hx)
  cases e with
  | put p l =>
    simp only [editR] at h
    split at h
    · split at h
      · cases h
      · cases h
        rename_i hp hn
        refine ⟨by simp only [List.length_append, List.length_cons, List.length_take, List.length_drop]; omega, by simp only [List.length_append, List.length_cons, List.length_take, List.length_drop]; omega, fun x hx => ?_⟩
        rcases List.mem_append.mp hx with q | q
        · exact tk _ x q
        · rcases List.mem_cons.mp q with q | q
          · rw [q]; exact he.2
          · exact dr _ x q
    · cases h
  | cut p =>
    simp only [editR] at h
    split at h
    · split at h
      · cases h
      · cases h
        rename_i hp hn
        refine ⟨by simp only [List.length_append, List.length_take, List.length_drop]; omega, by simp only [List.length_append, List.length_take, List.length_drop]; omega, fun x hx => ?_⟩
        rcases List.mem_append.mp hx with q | q
        · exact tk _ x q
        · exact dr _ x q
    · cases h
  | resize p l =>
    simp only [editR] at h
    split at h
    · cases h
      rename_i hp
      refine ⟨by simp only [List.length_append, List.length_cons, List.length_take, List.length_drop]; omega, by simp only [List.length_append, List.length_cons, List.length_take, List.length_drop]; omega, fun x hx => ?_⟩
      rcases List.mem_append.mp hx with q | q
      · exact tk _ x q
      · rcases List.mem_cons.mp q with q | q
        · rw [q]; exact he.2
        · exact dr _ x q
    · cases h
  | turn =>
    cases h
    exact ⟨by rw [List.length_reverse]; exact h1, by rw [List.length_reverse]; exact h2, fun x hx => h3 x (List.mem_reverse.mp hx)⟩
  | undo => exact he.elim
end MM
end
section
namespace TX
open PySem PySem.Spec PyProof.Rows L2 MM
/-! what the head's facts speak of -/
def Bad.isLook : Bad → Bool
  | .noPlace => true
  | .noWidth => true
  | _ => false
def Bad.isA (b : Bad) (x : Str) : Bool := x == b.name || (if Bad.isLook b then x == "LookupError" else x == "WrapError" || x == "ValueError")
def errNames : List Str := ["BadEdit", "BadEdits", "BadLength", "BadRow", "BadText", "BadTimes", "Busy", "LastWord", "NothingToUndo", "Rejected", "TooLong", "TooMany", "TooManyEdits", "TooNarrow", "NoPlace", "NoVersion", "NoWidth", "WrapError", "ValueError", "LookupError"]
/-- the field of the class -/
def Bad.field : Bad → Option Str
  | .noPlace => some "value"
  | .tooMany => some "limit"
  | .tooLong => some "place"
  | .noWidth => some "value"
  | .tooNarrow => some "place"
  | _ => none
abbrev Bad.adr (K : PySem.W.Frag) (b : Bad) : Addr := He.ga K b.name
abbrev sizesT : List (Str × Int) := [("cut", 2), ("put", 3), ("resize", 3), ("turn", 1)]
abbrev formsT : List (Str × Int) := [("put", 2), ("cut", 1), ("resize", 2), ("turn", 0), ("undo", 0), ("row", 0), ("size", 0), ("at", 1), ("look", 1), ("lines", 0), ("count", 1), ("steps", 0)]
abbrev editsT : List Str := ["put", "cut", "resize", "turn", "undo"]
end TX
end
section
namespace HF
open PySem PySem.Spec PyProof.Rows L2 TX
/-! ### what of the head's heap is looked at -/
def vref : Value → List Addr
  | .ref a => [a]
  | _ => []
def outs (o : Obj) : List Addr := match o.data with
  | .dict es _ => es.toList.flatMap fun e => vref e.val
  | .func fd => vref fd.code ++ (vref fd.kwdefaults ++ fd.closure.map (·.2))
  | .cls cd => [cd.ns]
  | .fields vs => (match o.cls with
    | .type t => if t == "property" then vs.toList.flatMap vref else []
    | _ => [])
  | _ => []
def outsA (g : Addr → Option Obj) (a : Addr) : List Addr := match g a with
  | some o => outs o
  | none => []
def walkA (g : Addr → Option Obj) : Nat → List Addr → List Addr
  | 0, as => as
  | n + 1, as => as ++ walkA g n (as.flatMap (outsA g))
def frag (g : Addr → Option Obj) : PySem.W.Frag := He.frG g (cStatics :: walkA g 5 [mainGlobals])
/-! ### functions -/
structure Fd where
  at_ : PySem.W.Frag → Addr
  name : Str
  qual : Str
  st : Stmt
  cl : List Str := []
  kwd : List (Str × He.Dv) := []
abbrev FnT : Type := Option (Str × Str × Arguments × FuncBody × Scope × Addr × List Str × Addr)
def Fd.val (d : Fd) : FnT := some (d.name, d.qual, defArgs d.st, .stmts (defBody d.st), defScope d.st, mainGlobals, d.cl, builtinsNs)
def fnT (K : PySem.W.Frag) (a : Addr) : FnT := match K.lookup a with
  | some ⟨_, _, .func fd, _⟩ => some (fd.name, fd.qualname, fd.params, fd.body, fd.scope, fd.globals, fd.closure.map (·.1), fd.builtins)
  | _ => none
def Fd.kws (K : PySem.W.Frag) (d : Fd) : List (Str × V) := d.kwd.map fun q => (q.1, q.2.v K)
def Fd.ok (K : PySem.W.Frag) (d : Fd) : Bool := PySem.W.keepIn K (.ref (d.at_ K)) && (match K.lookup (d.at_ K) with
  | some ⟨_, _, .func fd, _⟩ => PySem.W.codeIn K fd.code d.qual && (He.dflB K fd.defaults [] && He.kwdB K fd.kwdefaults (d.kws K))
  | _ => false)
def gA (x : Str) (K : PySem.W.Frag) : Addr := He.ga K x
def mA (D m : Str) (K : PySem.W.Frag) : Addr := He.ma K (He.ga K D) m
def prG (D f : Str) (K : PySem.W.Frag) : Addr := match PySem.W.recIn K (mA D f K) "property" with
  | some (.ref g :: _) => g
  | _ => 0
def prS (D f : Str) (K : PySem.W.Frag) : Addr := match PySem.W.recIn K (mA D f K) "property" with
  | some (_ :: .ref g :: _) => g
  | _ => 0
def defs0 : List Fd := [
  ⟨gA "is_integer", "is_integer", "is_integer", s_is_integer, [], []⟩,
  ⟨gA "is_length", "is_length", "is_length", s_is_length, [], []⟩,
  ⟨gA "check_place", "check_place", "check_place", s_check_place, [], []⟩,
  ⟨gA "extent_of", "extent_of", "extent_of", s_extent_of, [], []⟩,
  ⟨gA "longest", "longest", "longest", s_longest, [], []⟩,
  ⟨gA "check_fits", "check_fits", "check_fits", s_check_fits, [], []⟩,
  ⟨gA "next_start", "next_start", "next_start", s_next_start, [], []⟩,
  ⟨gA "starts_of", "starts_of", "starts_of", s_starts_of, [], []⟩,
  ⟨gA "starts_at", "starts_at", "starts_at", s_starts_at, [], []⟩,
  ⟨gA "count_lines", "count_lines", "count_lines", s_count_lines, [], []⟩,
  ⟨gA "lines_of", "lines_of", "lines_of", s_lines_of, [], []⟩,
  ⟨gA "next_width", "next_width", "next_width", s_next_width, [], []⟩,
  ⟨gA "book_of", "book_of", "book_of", s_book_of, [], []⟩,
  ⟨gA "steps_of", "steps_of", "steps_of", s_steps_of, [], []⟩,
  ⟨gA "row_error", "row_error", "row_error", s_row_error, [], []⟩,
  ⟨gA "row_text", "row_text", "row_text", s_row_text, [], []⟩]
def defs1 : List Fd := [
  ⟨gA "check_width", "check_width", "check_width", s_check_width, [], []⟩,
  ⟨gA "lines_text", "lines_text", "lines_text", s_lines_text, [], []⟩,
  ⟨gA "_law_shown_lines", "_law_shown_lines", "_law_shown_lines", s__law_shown_lines, [], []⟩,
  ⟨gA "_law_line", "_law_line", "_law_line", s__law_line, [], []⟩,
  ⟨gA "_law_said", "_law_said", "_law_said", s__law_said, [], []⟩,
  ⟨gA "parse_number", "parse_number", "parse_number", s_parse_number, [], []⟩,
  ⟨gA "check_length", "check_length", "check_length", s_check_length, [], []⟩,
  ⟨gA "changed", "changed", "changed", s_changed, [], []⟩,
  ⟨gA "put_in", "put_in", "put_in", s_put_in, [], []⟩,
  ⟨gA "taken_out", "taken_out", "taken_out", s_taken_out, [], []⟩,
  ⟨gA "edited", "edited", "edited", s_edited, [], []⟩,
  ⟨gA "is_edit", "is_edit", "is_edit", s_is_edit, [], []⟩,
  ⟨gA "error_name", "error_name", "error_name", s_error_name, [], []⟩,
  ⟨gA "_law_name", "_law_name", "_law_name", s__law_name, [], []⟩,
  ⟨gA "_law_field", "_law_field", "_law_field", s__law_field, [], []⟩,
  ⟨gA "_law_draw", "_law_draw", "_law_draw", s__law_draw, [], []⟩]
def defs2 : List Fd := [
  ⟨gA "_law_pick", "_law_pick", "_law_pick", s__law_pick, [], []⟩,
  ⟨gA "_law_row_drawn", "_law_row_drawn", "_law_row_drawn", s__law_row_drawn, [], []⟩,
  ⟨gA "_law_width_drawn", "_law_width_drawn", "_law_width_drawn", s__law_width_drawn, [], []⟩,
  ⟨gA "_law_edit", "_law_edit", "_law_edit", s__law_edit, [], []⟩,
  ⟨gA "_law_start", "_law_start", "_law_start", s__law_start, [], []⟩,
  ⟨gA "_law_made", "_law_made", "_law_made", s__law_made, [], []⟩,
  ⟨gA "_law_apply", "_law_apply", "_law_apply", s__law_apply, [], []⟩,
  ⟨gA "_law_did", "_law_did", "_law_did", s__law_did, [], []⟩,
  ⟨gA "_law_seen", "_law_seen", "_law_seen", s__law_seen, [], []⟩,
  ⟨gA "_law_look", "_law_look", "_law_look", s__law_look, [], []⟩,
  ⟨gA "_law_looked", "_law_looked", "_law_looked", s__law_looked, [], []⟩,
  ⟨gA "_law_query", "_law_query", "_law_query", s__law_query, [], []⟩,
  ⟨gA "_law_queries_right", "_law_queries_right", "_law_queries_right", s__law_queries_right, [], []⟩,
  ⟨gA "_law_hear", "_law_hear", "_law_hear", s__law_hear, [], []⟩,
  ⟨gA "_law_busy_right", "_law_busy_right", "_law_busy_right", s__law_busy_right, [], []⟩,
  ⟨gA "_law_stream", "_law_stream", "_law_stream", s__law_stream, [], []⟩]
def defs3 : List Fd := [
  ⟨gA "law", "law", "law", s_law, [], []⟩]
def defsL : List Fd := defs0 ++ defs1 ++ defs2 ++ defs3
def pageL : List Fd := [
  ⟨mA "Page" "__init__", "__init__", "Page.__init__", s_Page_init, [], []⟩,
  ⟨mA "Page" "accept", "accept", "Page.accept", s_Page_accept, [], []⟩,
  ⟨mA "Page" "check_idle", "check_idle", "Page.check_idle", s_Page_check_idle, [], []⟩,
  ⟨mA "Page" "perform", "perform", "Page.perform", s_Page_perform, [], []⟩,
  ⟨mA "Page" "perform_alone", "perform_alone", "Page.perform_alone", s_Page_perform_alone, [], []⟩,
  ⟨mA "Page" "put", "put", "Page.put", s_Page_put, [], []⟩,
  ⟨mA "Page" "cut", "cut", "Page.cut", s_Page_cut, [], []⟩,
  ⟨mA "Page" "resize", "resize", "Page.resize", s_Page_resize, [], []⟩,
  ⟨mA "Page" "turn", "turn", "Page.turn", s_Page_turn, [], []⟩,
  ⟨mA "Page" "undo", "undo", "Page.undo", s_Page_undo, [], []⟩,
  ⟨mA "Page" "step", "step", "Page.step", s_Page_step, [], []⟩,
  ⟨mA "Page" "edits", "edits", "Page.edits", s_Page_edits, [], []⟩,
  ⟨mA "Page" "look", "look", "Page.look", s_Page_look, [], []⟩,
  ⟨mA "Page" "__getitem__", "__getitem__", "Page.__getitem__", s_Page_getitem, [], []⟩,
  ⟨mA "Page" "__len__", "__len__", "Page.__len__", s_Page_len, [], []⟩,
  ⟨mA "Page" "__str__", "__str__", "Page.__str__", s_Page_str, [], []⟩,
  ⟨mA "Page" "__eq__", "__eq__", "Page.__eq__", s_Page_eq, [], []⟩,
  ⟨mA "Page" "run", "run", "Page.run", s_Page_run, [], [("on_step", .non)]⟩,
  ⟨mA "NarrowPage" "accept", "accept", "NarrowPage.accept", s_NarrowPage_accept, [], []⟩,
  ⟨mA "LoggedPage" "noted", "noted", "LoggedPage.noted", s_LoggedPage_noted, [], []⟩]
def propL : List Fd := [
  ⟨prG "Page" "row", "row", "Page.row", s_Page_row, [], []⟩,
  ⟨prG "Page" "size", "size", "Page.size", s_Page_size, [], []⟩,
  ⟨prG "Page" "version", "version", "Page.version", s_Page_version, [], []⟩,
  ⟨prG "Page" "width", "width", "Page.width", s_Page_width, [], []⟩,
  ⟨prG "Page" "lines", "lines", "Page.lines", s_Page_lines, [], []⟩,
  ⟨prS "Page" "width", "width", "Page.width", s_Page_width_set, [], []⟩,
  ⟨prG "LoggedPage" "log", "log", "LoggedPage.log", s_LoggedPage_log, [], []⟩]
def consL : List Fd := [
  ⟨mA "Console" "__init__", "__init__", "Console.__init__", s_Console_init, [], []⟩,
  ⟨mA "Console" "answer_edit", "answer_edit", "Console.answer_edit", s_Console_answer_edit, [], []⟩,
  ⟨mA "Console" "count_text", "count_text", "Console.count_text", s_Console_count_text, [], []⟩,
  ⟨mA "Console" "answer_query", "answer_query", "Console.answer_query", s_Console_answer_query, [], []⟩,
  ⟨mA "Console" "answer", "answer", "Console.answer", s_Console_answer, [], []⟩,
  ⟨mA "Console" "execute", "execute", "Console.execute", s_Console_execute, [], []⟩]
def supL : List Fd := [
  ⟨mA "LoggedPage" "__init__", "__init__", "LoggedPage.__init__", s_LoggedPage_init, ["__class__"], []⟩,
  ⟨mA "LoggedPage" "put", "put", "LoggedPage.put", s_LoggedPage_put, ["__class__"], []⟩,
  ⟨mA "LoggedPage" "cut", "cut", "LoggedPage.cut", s_LoggedPage_cut, ["__class__"], []⟩,
  ⟨mA "LoggedPage" "resize", "resize", "LoggedPage.resize", s_LoggedPage_resize, ["__class__"], []⟩,
  ⟨mA "LoggedPage" "turn", "turn", "LoggedPage.turn", s_LoggedPage_turn, ["__class__"], []⟩,
  ⟨mA "LoggedPage" "undo", "undo", "LoggedPage.undo", s_LoggedPage_undo, ["__class__"], []⟩,
  ⟨mA "LoggedPage" "run", "run", "LoggedPage.run", s_LoggedPage_run, ["__class__"], [("on_step", .non)]⟩]
def errL : List Fd := [
  ⟨mA "TooMany" "__init__", "__init__", "TooMany.__init__", s_TooMany_init, [], []⟩,
  ⟨mA "TooNarrow" "__init__", "__init__", "TooNarrow.__init__", s_TooNarrow_init, [], []⟩,
  ⟨mA "TooLong" "__init__", "__init__", "TooLong.__init__", s_TooLong_init, [], []⟩,
  ⟨mA "NoPlace" "__init__", "__init__", "NoPlace.__init__", s_NoPlace_init, [], []⟩,
  ⟨mA "NoWidth" "__init__", "__init__", "NoWidth.__init__", s_NoWidth_init, [], []⟩]
def fnsL : List Fd := defsL ++ (pageL ++ (propL ++ (consL ++ (supL ++ errL))))
/-! ### facts -/
abbrev Fr := PySem.W.Frag
def eqO := He.eqO
def glob0 : List Str := ["is_integer", "is_length", "check_place", "extent_of", "longest", "check_fits", "next_start", "starts_of", "starts_at", "count_lines", "lines_of", "next_width", "book_of", "steps_of", "row_error", "row_text"]
def glob1 : List Str := ["check_width", "lines_text", "_law_shown_lines", "_law_line", "_law_said", "parse_number", "check_length", "changed", "put_in", "taken_out", "edited", "is_edit", "error_name", "_law_name", "_law_field", "_law_draw"]
def glob2 : List Str := ["_law_pick", "_law_row_drawn", "_law_width_drawn", "_law_edit", "_law_start", "_law_made", "_law_apply", "_law_did", "_law_seen", "_law_look", "_law_looked", "_law_query", "_law_queries_right", "_law_hear", "_law_busy_right", "_law_stream"]
def glob3 : List Str := ["law", "is_edit_pages", "Page", "NarrowPage", "LoggedPage", "LoggedNarrowPage", "Console", "SIZES", "FORMS", "EDITS", "BadEdit", "BadEdits", "BadLength", "BadRow", "BadText", "BadTimes"]
def glob4 : List Str := ["Busy", "LastWord", "NothingToUndo", "Rejected", "TooLong", "TooMany", "TooManyEdits", "TooNarrow", "NoPlace", "NoVersion", "NoWidth", "WrapError"]
def globL : List Str := glob0 ++ glob1 ++ glob2 ++ glob3 ++ glob4
def freeL : List Str := ["len", "isinstance", "sum", "max", "min", "all", "tuple", "list", "str", "int", "bool", "zip", "enumerate", "range", "abs", "repr", "super", "ValueError", "LookupError"]
def intL : List (Str × Int) := [("MAX_WORDS", 24), ("MAX_LENGTH", 60), ("MAX_WIDTH", 2000), ("MAX_EDITS", 60), ("BATCH", 20), ("LONGEST", 4), ("KEPT", 20)]
def strL : List (Str × Str) := [("DIGITS", "0123456789"), ("ROW", "row"), ("UNKNOWN", "unknown command"), ("NONE", "none")]
def globB (K : Fr) : Bool := globL.all fun x => (He.Fa.glo x).ok K
def freeB (K : Fr) : Bool := freeL.all fun x => (He.Fa.free x).ok K
def intB (K : Fr) : Bool := intL.all fun q => (He.Fa.int q.1 q.2).ok K
def strB (K : Fr) : Bool := strL.all fun q => (He.Fa.str q.1 q.2).ok K
def fnB (K : Fr) : Bool := fnsL.all fun d => d.ok K
/-- m of the class C is the def of the class D -/
def methB (K : Fr) (C D m : Str) : Bool := eqO (PySem.W.findIn K (.ref (He.ga K C)) m) (some (some (.ref (mA D m K)))) && (PySem.W.isFn K (.ref (mA D m K)) && (PySem.W.keepIn K (.ref (mA D m K)) && PySem.W.fnIn K (mA D m K)))
def propB (K : Fr) (C D f : Str) : Bool := eqO (PySem.W.findIn K (.ref (He.ga K C)) f) (some (some (.ref (mA D f K)))) && (eqO (PySem.W.specialIn K (.ref (mA D f K)) "__get__") (some (some (.builtin "property.__get__"))) && (decide (PySem.W.takesIn K (.ref (mA D f K)) = some true) && (match PySem.W.recIn K (mA D f K) "property" with
  | some (.ref g :: _) => true
  | _ => false)))
def setB (K : Fr) (C D f : Str) : Bool := eqO (PySem.W.takerIn K (He.ga K C) f) (some (some (.ref (mA D f K)))) && (decide (PySem.W.typeIn K (.ref (mA D f K)) = some (.type "property")) && (match PySem.W.recIn K (mA D f K) "property" with
  | some (_ :: .ref g :: _) => true
  | _ => false))
def naB (K : Fr) (C f : Str) : Bool := (He.Fa.noat C f).ok K
def mkB (K : Fr) (C D : Str) : Bool := PySem.W.makesIn K (He.ga K C) && (eqO (PySem.W.findIn K (.ref (He.ga K C)) "__init__") (some (some (.ref (mA D "__init__" K)))) && (PySem.W.isFn K (.ref (mA D "__init__" K)) && PySem.W.keepIn K (.ref (He.ga K C))))
def supB (K : Fr) (C m : Str) : Bool := eqO (PySem.W.nsIn K cStatics "thirdparty.any") (some none) && ((match PySem.W.clsIn K (He.ga K C) with
  | some cd => eqO (PySem.W.alongIn K m ((cd.mro.dropWhile (· != .ref (He.ga K "LoggedPage"))).drop 1)) (some (some (.ref (mA "Page" m K))))
  | none => false) && ((PySem.W.clsIn K (He.ga K "LoggedPage")).isSome && (decide (PySem.W.subIn K (.ref (He.ga K C)) (.ref (He.ga K "LoggedPage")) = some true) && (PySem.W.fnIn K (mA "Page" m K) && PySem.W.isFn K (.ref (mA "Page" m K))))))
/-- the cell and the file of a def that calls super() -/
def cellB (K : Fr) (file : Str) (m : Str) : Bool := match K.lookup (mA "LoggedPage" m K) with
  | some ⟨_, _, .func fd, _⟩ => (match fd.closure, fd.code with
    | [(_, c)], .ref cc => (match K.lookup c, K.lookup cc with
      | some ⟨_, _, .cell (some (.ref d)), _⟩, some ⟨_, _, .fields vs, _⟩ => decide (d = He.ga K "LoggedPage") && (match (vs[2]? : Option Value) with
        | some (.str f _) => file == f
        | _ => false)
      | _, _ => false)
    | _, _ => false)
  | _ => false
def clsNames : List Str := ["Page", "NarrowPage", "LoggedPage", "LoggedNarrowPage"]
/-- where the class C has m from -/
def fromB (C m : Str) : Str := if m == "accept" then (if C == "NarrowPage" || C == "LoggedNarrowPage" then "NarrowPage" else "Page") else if (C == "LoggedPage" || C == "LoggedNarrowPage") && (["__init__", "put", "cut", "resize", "turn", "undo", "run", "noted", "log"] : List Str).contains m then "LoggedPage" else "Page"
def methsL : List Str := ["accept", "check_idle", "perform", "put", "cut", "resize", "turn", "undo", "step", "edits", "look", "run", "__getitem__", "__len__", "__str__", "__eq__", "perform_alone"]
def propsL : List Str := ["row", "size", "version", "width", "lines"]
def pgfL : List Str := ["now", "states", "done", "wanted", "is_busy", "rows"]
def isiB (K : Fr) (C : Str) : Bool := eqO (PySem.W.findIn K (.ref (He.ga K C)) "__class__") (some (some (.builtin "object.__class__"))) && (eqO (PySem.W.specialIn K (.builtin "object.__class__") "__get__") (some (some (.builtin "getset_descriptor.__get__"))) && (decide (PySem.W.takesIn K (.builtin "object.__class__") = some true) && (decide (PySem.W.mroIn K (He.ga K C) (.type "object") = some true) && decide (PySem.W.kitOne K (.ref (He.ga K C)) (.ref (He.ga K "Page")) = some true))))
def pageB (K : Fr) (C : Str) : Bool := (He.Fa.cls C).ok K && (pgfL.all (naB K C) && (methsL.all (fun m => methB K C (fromB C m) m) && (propsL.all (fun f => propB K C "Page" f) && (setB K C "Page" "width" && (mkB K C (fromB C "__init__") && (isiB K C && PySem.W.notFirst K (He.ga K C) (.ref (He.ga K C))))))))
def supsL : List Str := ["__init__", "put", "cut", "resize", "turn", "undo", "run"]
def loggedB (K : Fr) (C : Str) : Bool := methB K C "LoggedPage" "noted" && (propB K C "LoggedPage" "log" && supsL.all (supB K C))
def narrowB (K : Fr) (C : Str) : Bool := He.conB K C "MOST" (.int 12)
def consB (K : Fr) : Bool := (He.Fa.cls "Console").ok K && ((["page", "pairs"] : List Str).all (naB K "Console") && ((["answer_edit", "count_text", "answer_query", "answer", "execute"] : List Str).all (fun m => methB K "Console" "Console" m) && mkB K "Console" "Console"))
def veL : List Value := [.type "ValueError", .type "Exception", .type "BaseException", .type "object"]
def leL : List Value := [.type "LookupError", .type "Exception", .type "BaseException", .type "object"]
def exB (K : Fr) (x : Str) (bm : List Value) (nw : String) : Bool := PySem.W.keepIn K (.ref (He.ga K x)) && (decide (PySem.W.subIn K (.ref (He.ga K x)) (.type "BaseException") = some true) && decide (PySem.W.typeIn K (.ref (He.ga K x)) = some (.type "type")))
def er0B (K : Fr) (x : Str) : Bool := exB K x veL "ValueError.__new__" && PySem.W.excIn K (He.ga K x) veL "ValueError.__new__"
def erB (K : Fr) (x f : Str) (bm : List Value) (nw : String) : Bool := exB K x bm nw && (PySem.W.excInitIn K (He.ga K x) bm nw && (PySem.W.hasDictIn K (He.ga K x) && (eqO (PySem.W.findIn K (.ref (He.ga K x)) "__setattr__") (some (some (.builtin "object.__setattr__"))) && (naB K x f && (eqO (PySem.W.findIn K (.ref (He.ga K x)) "__init__") (some (some (.ref (mA x "__init__" K)))) && decide (PySem.W.typeIn K (.ref (mA x "__init__" K)) = some (.type "function")))))))
def badL : List MM.Bad := [.noPlace, .tooMany, .lastWord, .tooLong, .tooManyEdits, .nothing, .busy, .noWidth, .tooNarrow]
def errV (K : Fr) (x : Str) : Value := if x == "ValueError" then .type "ValueError" else if x == "LookupError" then .type "LookupError" else .ref (He.ga K x)
def ercB (K : Fr) (b : MM.Bad) : Bool := (PySem.W.clsIn K (Bad.adr K b)).isSome && (eqO (PySem.W.findIn K (.ref (Bad.adr K b)) "__getattribute__") (some (some (.builtin "BaseException.__getattribute__"))) && (eqO (PySem.W.findIn K (.ref (Bad.adr K b)) "__getattr__") (some none) && (decide (PySem.W.subIn K (.ref (Bad.adr K b)) (.type "BaseException") = some true) && (PySem.W.hasDictIn K (Bad.adr K b) && (eqO (PySem.W.findIn K (.ref (Bad.adr K b)) "__class__") (some (some (.builtin "object.__class__"))) && (decide (PySem.W.mroIn K (Bad.adr K b) (.type "object") = some true) && (errNames.all (fun x => decide (PySem.W.kitOne K (.ref (Bad.adr K b)) (errV K x) = some (Bad.isA b x))) && (match Bad.field b with
  | some f => naB K b.name f
  | none => true))))))))
def exmB (K : Fr) : Bool := (["NoPlace", "TooNarrow", "NoWidth"] : List Str).all (fun x => (He.Fa.exm x x true).ok K) && (badL.all (fun b => b == .noWidth || decide (PySem.W.exmAny K (.ref (Bad.adr K b)) [.ref (He.ga K "WrapError"), .ref (He.ga K "NoPlace")] = some true)) && badL.all (fun b => decide (PySem.W.exmAny K (.ref (Bad.adr K b)) [.ref (He.ga K "WrapError"), .ref (He.ga K "NoPlace"), .ref (He.ga K "NoWidth")] = some true)))
def tabB (K : Fr) : Bool := He.valsB K (He.ga K "SIZES") (sizesT.map fun q => (q.1, .int q.2)) && (He.valsB K (He.ga K "FORMS") (formsT.map fun q => (q.1, .int q.2)) && (eqO (PySem.W.nsIn K (He.ga K "FORMS") "run") (some none) && (He.tupB K "EDITS" (editsT.map .str) && decide (He.ga K "is_edit_pages" = He.ga K "is_edit"))))
def cT (K : Fr) : Addr × Addr := He.cT K ("_law_busy_right", none)
def ltabB (g : Addr → Option Obj) (K : Fr) : Bool := PySem.W.codeHdIn K (cT K).1 (cT K).2 && ((K.lookup (cT K).2).isNone && (match g (cT K).2 with
  | some o => He.emptyTab o
  | none => false))
def factsL (file : Str) (g : Addr → Option Obj) (K : Fr) : List Bool := [globB K, freeB K, intB K, strB K, fnB K, clsNames.all (pageB K), loggedB K "LoggedPage", loggedB K "LoggedNarrowPage", supsL.all (cellB K file), narrowB K "NarrowPage", narrowB K "LoggedNarrowPage", consB K,
  (["LastWord", "Busy", "TooManyEdits", "NothingToUndo"] : List Str).all (er0B K), erB K "TooMany" "limit" veL "ValueError.__new__", erB K "TooNarrow" "place" veL "ValueError.__new__", erB K "TooLong" "place" veL "ValueError.__new__", erB K "NoPlace" "value" leL "LookupError.__new__", erB K "NoWidth" "value" leL "LookupError.__new__", badL.all (ercB K), exmB K, tabB K, ltabB g K]
abbrev Al : Type := List Bool × List FnT × List (Option (List (Option (Str × Int))))
def obsF (file : Str) (g : Addr → Option Obj) : Al := (factsL file g (frag g), fnsL.map (fun d => fnT (frag g) (d.at_ (frag g))), [He.dicW (frag g) (He.ga (frag g) "SIZES"), He.dicW (frag g) (He.ga (frag g) "FORMS")])
def valF (w : World) : Al := ([true, true, true, true, true, true, true, true, true, true, true, true, true, true, true, true, true, true, true, true, true, true], fnsL.map Fd.val, [some (He.keysIn w.params (sizesT.map (·.1))), some (He.keysIn w.params (formsT.map (·.1)))])
end HF
end
section
namespace HF
open PySem PySem.W PySem.Calls PyProof.Rows
abbrev R : OpenRow := OpenLaw.row PySem.Challenge.rw_wrapwidths_k97_whole_console_beside_a_pa
abbrev qv : Program := view R.prog [101]
abbrev theFile : PySem.Str := PySem.Challenge.pw_wrapwidths_k97_whole_console_beside_a_pa.main.file
def obsK (g : Addr → Option Obj) (K : Frag) : Al := (factsL theFile g K, fnsL.map (fun d => fnT K (d.at_ K)), [He.dicW K (He.ga K "SIZES"), He.dicW K (He.ga K "FORMS")])
theorem ltab_keeps {h h' : Heap} {K : Frag} (k : ∀ a o, h.get? a = some o → h'.get? a = some o) (e : ltabB h.get? K = true) : ltabB h'.get? K = true := by
  unfold ltabB at e ⊢
  cases q : h.get? (cT K).2 with
  | none =>
    rw [q] at e
    simp at e
  | some o =>
    rw [q] at e
    rw [k _ _ q]
    exact e
theorem obs_keeps {h h' : Heap} {K : Frag} {w : World} (k : ∀ a o, h.get? a = some o → h'.get? a = some o) (e : obsK h.get? K = valF w) : obsK h'.get? K = valF w := by
  have e1 : factsL theFile h.get? K = (valF w).1 := congrArg (fun z : Al => z.1) e
  have e2 : ltabB h.get? K = true := by
    have := congrArg (fun l : List Bool => l.getD 21 false) e1
    exact this
  have e3 : factsL theFile h'.get? K = factsL theFile h.get? K := by
    unfold factsL
    rw [ltab_keeps k e2, e2]
  rw [← e]
  unfold obsK
  rw [e3]
def hookF : Hook where
  α := Al
  obs := fun s => obsF theFile s.heap.get?
  val := fun w => valF w
  says := fun w h => ∃ K : Frag, K.In h ∧ obsK h.get? K = valF w
  of := fun _ _ e => ⟨_, He.frG_in, e⟩
  keeps := fun _ _ _ ⟨K, hK, c⟩ k => ⟨K, Frag.In.keeps hK k, obs_keeps k c⟩
def ob (s : SharedT) : Al := obsF theFile (HandSHeadRun.getT s)
theorem ob_eq (s : SharedT) : ob s = hookF.obs s.abs := by
  have e : HandSHeadRun.getT s = s.abs.heap.get? := funext (HandSHeadRun.getT_eq s)
  show obsF theFile (HandSHeadRun.getT s) = obsF theFile s.abs.heap.get?
  rw [e]
def names0 : List PySem.Str := ["_wall", "WrapError", "NoRows", "TooMany", "TooNarrow", "BadLength", "LastWord", "BadRow", "BadTimes", "TooLong", "TooManyEdits", "NothingToUndo", "BadEdits", "BadEdit", "Rejected", "Busy"]
def names1 : List PySem.Str := ["BadText", "NoPlace", "NoWidth", "NoVersion", "MAX_WORDS", "MAX_LENGTH", "MAX_WIDTH", "MAX_EDITS", "BATCH", "is_integer", "is_length", "row_error", "check_place", "extent_of", "longest", "joined"]
def names2 : List PySem.Str := ["check_fits", "next_start", "starts_of", "starts_at", "lines_of", "count_lines", "next_width", "book_of", "steps_of", "DIGITS", "ROW", "LONGEST", "row_text", "parse_number", "parse_row", "check_width"]
def names3 : List PySem.Str := ["WordRow", "UNKNOWN", "NONE", "KEPT", "EDITS", "FORMS", "error_name", "lines_text", "Console", "check_length", "changed", "put_in", "taken_out", "SIZES", "is_edit", "is_edit_pages"]
def names4 : List PySem.Str := ["edited", "Page", "NarrowPage", "LoggedPage", "LoggedNarrowPage", "_law_stream", "_law_draw", "_law_pick", "_law_row_drawn", "_law_width_drawn", "_law_name", "_law_field", "_law_apply", "_law_did", "_law_seen", "_law_edit"]
def names5 : List PySem.Str := ["_law_made", "_law_start", "_law_said", "_law_line", "_law_shown_lines", "_law_query", "_law_queries_right", "_law_look", "_law_looked", "_law_hear", "_law_busy_right"]
def names : List PySem.Str := names0 ++ names1 ++ names2 ++ names3 ++ names4 ++ names5

end HF
end
section
namespace HF
open PySem PySem.W PySem.Calls PyProof.Rows
noncomputable abbrev endW (w : World) (os : OsState) : Option SharedT := HandSHeadRun.endF (HandSHeadRun.stepQ (HandSHeadRun.denQ HandSHeadRun.tabQ) R.prog w) 20000 R.prog w os
abbrev Run0 (w : World) : Prop := HandSHeadRun.RunEq R qv Hook.none (fun _ => ()) 20000 names w
/-- the facts in four parts: one run of the kernel each, for its memory -/
def ob1 (s : SharedT) : List Bool := (factsL theFile (HandSHeadRun.getT s) (frag (HandSHeadRun.getT s))).take 4
def ob4 (s : SharedT) : List Bool := ((factsL theFile (HandSHeadRun.getT s) (frag (HandSHeadRun.getT s))).take 5).drop 4
def ob2 (s : SharedT) : List Bool := ((factsL theFile (HandSHeadRun.getT s) (frag (HandSHeadRun.getT s))).drop 5).take 7
def ob3 (s : SharedT) : Al := (((factsL theFile (HandSHeadRun.getT s) (frag (HandSHeadRun.getT s))).drop 5).drop 7, (ob s).2)
def Run1 (w : World) : Prop := ∀ os : OsState, (endW w os).map ob1 = some (List.replicate 4 true)
def Run4 (w : World) : Prop := ∀ os : OsState, (endW w os).map ob4 = some [true]
def Run2 (w : World) : Prop := ∀ os : OsState, (endW w os).map ob2 = some (List.replicate 7 true)
def Run3 (w : World) : Prop := ∀ os : OsState, (endW w os).map ob3 = some (List.replicate 10 true, (valF w).2)
theorem run0F (w : World) : Run0 (w.withFollow "special-get-raises" false) := by
  intro os
  kernel_rfl
theorem run0T (w : World) : Run0 (w.withFollow "special-get-raises" true) := by
  intro os
  kernel_rfl
theorem run1F (w : World) : Run1 (w.withFollow "special-get-raises" false) := by
  intro os
  kernel_rfl
theorem run1T (w : World) : Run1 (w.withFollow "special-get-raises" true) := by
  intro os
  kernel_rfl
theorem run4F (w : World) : Run4 (w.withFollow "special-get-raises" false) := by
  intro os
  kernel_rfl
theorem run4T (w : World) : Run4 (w.withFollow "special-get-raises" true) := by
  intro os
  kernel_rfl
theorem run2F (w : World) : Run2 (w.withFollow "special-get-raises" false) := by
  intro os
  kernel_rfl
theorem run2T (w : World) : Run2 (w.withFollow "special-get-raises" true) := by
  intro os
  kernel_rfl
theorem run3F (w : World) : Run3 (w.withFollow "special-get-raises" false) := by
  intro os
  kernel_rfl
theorem run3T (w : World) : Run3 (w.withFollow "special-get-raises" true) := by
  intro os
  kernel_rfl
theorem run (w : World) : HandSHeadRun.RunEq R qv hookF ob 20000 names w := fun os => by
  have a := byRow2 "special-get-raises" (P := Run0) run0F run0T w os
  have b1 := byRow2 "special-get-raises" (P := Run1) run1F run1T w os
  have b4 := byRow2 "special-get-raises" (P := Run4) run4F run4T w os
  have b2 := byRow2 "special-get-raises" (P := Run2) run2F run2T w os
  have b3 := byRow2 "special-get-raises" (P := Run3) run3F run3T w os
  cases q : endW w os with
  | none =>
    rw [q] at b1
    cases b1
  | some s =>
    have q2 : HandSHeadRun.endF (HandSHeadRun.stepQ (HandSHeadRun.denQ HandSHeadRun.tabQ) R.prog w) 20000 R.prog w os = some s := q
    rw [q2] at a
    rw [q] at b1 b2 b3 b4
    have c4 : ob4 s = [true] := Option.some.inj b4
    have c0 : ob1 s = List.replicate 4 true := Option.some.inj b1
    have c2 : ob2 s = List.replicate 7 true := Option.some.inj b2
    have c3 : ob3 s = (List.replicate 10 true, (valF w).2) := Option.some.inj b3
    have d3 : (ob3 s).1 = List.replicate 10 true := by rw [c3]
    have d4 : (ob3 s).2 = (valF w).2 := by rw [c3]
    have d3 : ((factsL theFile (HandSHeadRun.getT s) (frag (HandSHeadRun.getT s))).drop 5).drop 7 = List.replicate 10 true := d3
    have d4 : (ob s).2 = (valF w).2 := d4
    have d1 : (ob s).1 = (valF w).1 := by
      show factsL theFile (HandSHeadRun.getT s) (frag (HandSHeadRun.getT s)) = _
      have e1 := List.take_append_drop 5 (factsL theFile (HandSHeadRun.getT s) (frag (HandSHeadRun.getT s)))
      have e2 := List.take_append_drop 7 ((factsL theFile (HandSHeadRun.getT s) (frag (HandSHeadRun.getT s))).drop 5)
      have c1 : (factsL theFile (HandSHeadRun.getT s) (frag (HandSHeadRun.getT s))).take 5 = List.replicate 5 true := by
        have e0 := List.take_append_drop 4 ((factsL theFile (HandSHeadRun.getT s) (frag (HandSHeadRun.getT s))).take 5)
        have c0 : (factsL theFile (HandSHeadRun.getT s) (frag (HandSHeadRun.getT s))).take 4 = _ := c0
        have c4 : ((factsL theFile (HandSHeadRun.getT s) (frag (HandSHeadRun.getT s))).take 5).drop 4 = _ := c4
        have c5 : ((factsL theFile (HandSHeadRun.getT s) (frag (HandSHeadRun.getT s))).take 5).take 4 = List.replicate 4 true := by
          rw [List.take_take]
          exact c0
        rw [← e0, c5, c4]
        rfl
      have c2 : ((factsL theFile (HandSHeadRun.getT s) (frag (HandSHeadRun.getT s))).drop 5).take 7 = _ := c2
      rw [← e1, ← e2, c1, c2, d3]
      rfl
    have b5 : ob s = valF w := Prod.ext d1 d4
    have a2 := Option.some.inj a
    rw [q2]
    show some (_, _, ob s) = some (true, openGood qv names, hookF.val w)
    rw [b5]
    have a3 := congrArg (fun z : Bool × _ × Unit => z.1) a2
    have a4 := congrArg (fun z : Bool × _ × Unit => z.2.1) a2
    exact congrArg some (Prod.ext a3 (Prod.ext a4 rfl))
end HF
end
section
/-! own errors: made by a one-field __init__ over any built-in base, or by none; raised; caught by a tuple of classes -/
namespace WX
open PySem PySem.W PySem.Calls PyProof.Rows PySem.HandSPX
open Builtin Builtin.ObjectAttr
section
variable {prog : Program} {w : World} {A : Around} {E : Value → Shared → Prop} {R : Result → Shared → Prop} {hp : Heap} {g : Array GenState} {d : Drawn} {t : Nat} {os : OsState}
theorem osaT {K : Frag} {name : Str} {tk : Tok} {v : Value} {x C : Addr} {fv : Array Value} {cd : ClassData} {bm bmB : List Value}
    (X : K.In hp) (hx : hp.get? x = some { cls := .ref C, data := .fields fv }) (hcd : clsIn K C = some cd) (hmro : cd.mro = .ref C :: bm) (hm : excTail bmB bm = true) (hob : bmB.contains (.type "object") = true)
    (hps : ∀ self, refuseLoop self "__setattr__" bmB = pure ()) (hh : cd.hasDict = true) (ha : findIn K (.ref C) name = some none)
    (hq : ∀ h' tk' dx, (∀ b o, b ≠ x → hp.get? b = some o → h'.get? b = some o) → hp.objs.size ≤ dx → dx ≠ x → h'.get? x = some { cls := .ref C, dict := some dx, data := .fields fv } →
      h'.Ns1 dx (fun y => if y = name then some v else none) → R (.ok (.ret .none)) ⟨h', g, d, tk', os⟩) :
    codeAny (model prog w) A (.call (.builtin "object.__setattr__") ⟨[.ref x, .str name tk, v], []⟩) R ⟨hp, g, d, t, os⟩ := by
  have I : InstAt hp x { cls := .ref C, data := .fields fv } C none := ⟨hx, rfl, rfl, trivial⟩
  have SF := F.store_object
  have ne : cd.mro.isEmpty = false := by rw [hmro]; rfl
  have hob2 : cd.mro.contains (.type "object") = true := by rw [hmro, List.contains_cons, excTail_contains "object" bm hm, hob, Bool.or_true]
  have hxs : x ≠ hp.objs.size := Nat.ne_of_lt (Heap.lt_size hx)
  have sub : Looks (model prog w) hp (isInstance (.ref x) (.type "object")) true := I.type.andThen (looks_mroIn X (by unfold mroIn; rw [hcd, Option.bind_some, if_neg (by rw [ne]; decide), hob2]))
  refine codeAny_call_builtin SF.slot.plain SF.entry (@check_slot (model prog w) _ _ ⟨hp, g, d, t, os⟩ "object.__setattr__" "object" "__setattr__" (.ref x) [.str name tk, v] [] _ SF.kind SF.split sub (SF.args (.ref x) (.str name tk) v) ?_)
  have hmr : Looks (model prog w) hp (mroOf (.ref C)) cd.mro := (looks_clsIn X hcd).andThen .now
  have L3 : Looks (model prog w) hp (storeTaker? none) none := .now
  have hcls : Looks (model prog w) hp (classData C) cd := looks_clsIn X hcd
  rw [osa_eq, refuse_eq]
  refine wpAny_bind (wpAny_bind (I.type.at (wpAny_bind (hmr.at ?_))))
  rw [hmro, refuseLoop_ref, excTail_pass (Value.ref x) (hps _) _ hm]
  refine wpAny_pure (wpAny_bind (I.type.at (wpAny_bind ((looks_findIn X ha).at (wpAny_bind (L3.at ?_))))))
  show wpAny _ _ (storeInOwnDict (.ref x) (.ref C) (.str name tk) name v false) _ _ _
  obtain ⟨nm, bs, mro, ns, qn, hd, sn, sb, ab, col, del⟩ := cd
  dsimp only at hh
  subst hh
  unfold storeInOwnDict ownDictForStores
  repeat (first | with_reducible refine store_in_new ?_ ?_ | with_reducible refine wpAny_loadPart_at hx ?_ | with_reducible refine hcls.at ?_ | wp_step)
  · exact ⟨_, #[], _, (Heap.get?_update_ne _ _ _ _ hxs.symm).trans (Heap.get?_push_at rfl rfl), rfl, fun e he => absurd he (by simp), fun _ => rfl⟩
  · intro h' tk' hn' hs
    have hx₁ : (hp.push { cls := .type "dict", data := .dict #[] }).get? x = some { cls := .ref C, data := .fields fv } := Heap.get?_push_of_some _ hx
    refine hq h' tk' hp.objs.size (fun b o hb ho => ?_) (Nat.le_refl _) hxs.symm ?_ hn'
    · exact (hs.2 b (Nat.ne_of_lt (Heap.lt_size ho))).trans ((Heap.get?_update_ne _ _ _ _ hb).trans (Heap.get?_push_of_some _ ho))
    · exact (hs.2 x hxs).trans (Heap.get?_update_self _ hx₁ rfl)
end
/-- the __init__ of one field: self.f = f -/
structure IniF (f : Str) (params : Arguments) (body : List Stmt) (scope : Scope) : Prop where
  bdy : ∃ q1 q2 q3 q4, body = [.Assign [.Attribute (.Name "self" q1) f q2] (.Name f q3) q4]
  bind : ∀ (qual : Str) (kV doc pm : Value) (an : Option Addr) (cdv ct a b : Value), bindArgs (fnOf "__init__" qual params body scope .none kV doc pm an cdv ct) ⟨[a, b], []⟩ = pure [(("self" : Str), a), (f, b)]
  k1 : scope.names.lookup ("self" : Str) = some .local
  k2 : scope.names.lookup f = some .local
  ne : ("self" : Str) ≠ f
  dbg : (f == ("__debug__" : Str)) = false
  co : scope.isCoroutine = false
  gen : scope.isGenerator = false
  kind : scope.kind = .function
/-- what the written part says of such a class -/
structure ExcI (K : Frag) (C fI : Addr) (f qual : Str) (params : Arguments) (body : List Stmt) (scope : Scope) (B newId initId : String) (bmB : List Value) : Prop where
  FB : ExcBaseFacts B newId initId bmB
  obj : bmB.contains (.type "object") = true
  pass : ∀ self, refuseLoop self "__setattr__" bmB = pure ()
  cls : ∃ nm q N bs bm sn sub ab col dd k0 k1 k2 k3 k5, K.lookup C = some (excClassObj nm q C N bs bm true sn sub ab col dd k0 k1 k2 k3 k5 newId) ∧ excTail bmB bm = true
  sa : findIn K (.ref C) "__setattr__" = some (some (.builtin "object.__setattr__"))
  noN : findIn K (.ref C) f = some none
  iC : findIn K (.ref C) "__init__" = some (some (.ref fI))
  tC : typeIn K (.ref fI) = some (.type "function")
  kC : keepIn K (.ref C) = true
  exC : subIn K (.ref C) (.type "BaseException") = some true
  tyC : typeIn K (.ref C) = some (.type "type")
  ini : IniF f params body scope
  fn : ∃ (oc : Value) (od : Option Addr) (kV doc pm : Value) (an : Option Addr) (cdv ct : Value) (osl : Array (Option Value)),
    K.lookup fI = some ⟨oc, od, .func (fnOf "__init__" qual params body scope .none kV doc pm an cdv ct), osl⟩ ∧ codeIn K cdv qual = true
theorem one_size (v : Value) : [v].length ≤ sizeLine := by
  rw [sizeLine_eq]
  exact (by decide : 1 ≤ 16777216)
/-- what __init__ leaves of a fresh exception at x -/
structure InitEnd (h h' : Heap) (x C dx t1 : Addr) (f : Str) (v : Value) : Prop where
  keep : ∀ b o, b ≠ x → h.get? b = some o → h'.get? b = some o
  obj : h'.get? x = some { cls := .ref C, dict := some dx, data := .fields #[.ref t1, .none, .none, .none, .bool false, .none] }
  dbig : h.objs.size ≤ dx
  dne : dx ≠ x
  ns : h'.Ns1 dx (fun y => if y = f then some v else none)
structure OwnMade (h h' : Heap) (e C d : Addr) (f : Str) (v : Value) : Prop where
  keep : ∀ b o, h.get? b = some o → h'.get? b = some o
  new : h.objs.size ≤ e
  obj : ∃ oe vs, h'.get? e = some oe ∧ oe.cls = .ref C ∧ oe.dict = some d ∧ oe.data = .fields vs ∧ vs[1]? = some .none ∧ vs[2]? = some .none
  dbig : h.objs.size ≤ d
  dne : d ≠ e
  ns : h'.Ns1 d (fun y => if y = f then some v else none)
section
variable {prog : Program} {w : World} {A : Around} {E : Value → Shared → Prop} {R : Result → Shared → Prop} {s : Shared} {K : Frag} {C fI : Addr} {f qual : Str} {params : Arguments} {body : List Stmt} {scope : Scope} {B newId initId : String} {bmB : List Value}
theorem ldN {M : Model} {s : Shared} {name : Str} {scope : Scope} {L a : Addr} {cd : Value} {m : Str → Option Value} {x : Str} {pos : Pos} {v : Value} {Q : Value → Shared → Prop} {A : Around} {E : Value → Shared → Prop} (hn : s.heap.Ns L m) (hv : m x = some v) (h : Q v s)
    (hk : scope.kind = .function) (hl : scope.names.lookup x = some .local) (hd : (x == ("__debug__" : Str)) = false) :
    wpAny M A (eval (.Name x pos) (envOfC name scope L a cd)) Q E s := wpAny_Name (wpAny_loadName_local hk hl hn hv h) hd
theorem ini_run (T : ExcI K C fI f qual params body scope B newId initId bmB) {x t0 : Addr} {v : Value} (X : K.In s.heap) (hlim : s.heap.NoLimit) (hx : s.heap.get? x = some (excO C t0)) (hnx : K.lookup x = none) (hroom : A.depth < recursionLimit)
    (hq : ∀ h' tk dx, InitEnd s.heap h' x C dx t0 f v → R (.ok (.ret .none)) { s with heap := h', toks := tk }) :
    codeAny (model prog w) A (.call (.ref fI) ⟨[.ref x, v], []⟩) R s := by
  obtain ⟨oc, od, kV, doc, pm, an, cdv, ct, osl, ho, hcd⟩ := T.fn
  obtain ⟨nm, q, N, bs, bm, sn, sub, ab, col, dd, k0, k1, k2, k3, k5, hC, hbm⟩ := T.cls
  have hcl : clsIn K C = some { name := nm, bases := bs, mro := .ref C :: bm, ns := N, qualname := q, hasDict := true, slotNames := sn, subclasses := sub, abstract := ab, collection := col, hasDel := false } := by unfold clsIn; rw [hC] <;> rfl
  obtain ⟨q1, q2, q3, q4, hb⟩ := T.ini.bdy
  refine Att.call_fn (binds := [(("self" : Str), .ref x), (f, v)]) X hlim ho hcd hroom (BindsTo.of_eq (T.ini.bind _ _ _ _ _ _ _ _ _)) (by simp [T.ini.k1, T.ini.k2]) (fun s₁ IC => ?_) T.ini.co T.ini.gen T.ini.kind
  obtain ⟨h₁, tk₁, rfl⟩ := IC.toInCall.same
  have k : ∀ b o, s.heap.get? b = some o → h₁.get? b = some o := IC.toInCall.keep
  have hn := IC.toInCall.ns
  have X₁ : K.In h₁ := X.keeps k
  have hx₁ := k _ _ hx
  have ndP : ([("self" : Str), f] : List Str).Nodup := by simp [T.ini.ne]
  have e1 : (bindL (envOfC qual scope s.heap.objs.size fI cdv).kindOf [(("self" : Str), .ref x), (f, v)] fun _ => none) ("self" : Str) = some (.ref x) :=
    L2.bindL_get (P := [("self" : Str), f]) (vs := [.ref x, v]) (i := 0) ndP rfl rfl T.ini.k1
  have e2 : (bindL (envOfC qual scope s.heap.objs.size fI cdv).kindOf [(("self" : Str), .ref x), (f, v)] fun _ => none) f = some v :=
    L2.bindL_get (P := [("self" : Str), f]) (vs := [.ref x, v]) (i := 1) ndP rfl rfl T.ini.k2
  rw [hb]
  show wpAny _ _ (execs _ _) _ _ _
  refine wpAny_execs_cons (plainObj_wpAny_Assign_Attribute ?_)
  refine ldN (v := v) hn e2 (ldN (v := .ref x) hn e1 ?_ T.ini.kind T.ini.k1 (by decide)) T.ini.kind T.ini.k2 T.ini.dbg
  refine set_plain X₁ (ox := excO C t0) (od := none) ⟨hx₁, rfl, rfl, trivial⟩ T.sa ?_
  refine osaT X₁ hx₁ hcl rfl hbm T.obj T.pass rfl T.noN (fun h₃ tk₃ dx k₃ dn dne hx₃ hn₃ => ?_)
  show wpAny _ _ (execs _ _) _ _ _
  have z : s.heap.objs.size < h₁.objs.size := hn.lt
  exact wpAny_execs_nil (hq h₃ tk₃ dx ⟨fun b o hb e => k₃ b o hb (k b o e), hx₃, Nat.le_of_lt (Nat.lt_of_lt_of_le z dn), dne, hn₃⟩)
theorem ini_made (T : ExcI K C fI f qual params body scope B newId initId bmB) {v : Value} (X : K.In s.heap) (hlim : s.heap.NoLimit) (hroom : A.depth + 1 < recursionLimit)
    (hq : ∀ h' tk e d, OwnMade s.heap h' e C d f v → R (.ok (.ret (.ref e))) { s with heap := h', toks := tk }) :
    codeAny (model prog w) A (.call (.ref C) ⟨[v], []⟩) R s := by
  obtain ⟨nm, q, N, bs, bm, sn, sub, ab, col, dd, k0, k1, k2, k3, k5, hC, hbm⟩ := T.cls
  obtain ⟨hp, g, dr, tk, os⟩ := s
  have k : ∀ b o, hp.get? b = some o → ((hp.push (kdv_tup [v])).push (excO C hp.objs.size)).get? b = some o := fun b o e => Heap.get?_push_of_some _ (Heap.get?_push_of_some _ e)
  have hget : ((hp.push (kdv_tup [v])).push (excO C hp.objs.size)).get? (hp.objs.size + 1) = some (excO C hp.objs.size) := by heap_get
  have hnx : K.lookup (hp.objs.size + 1) = none := by
    cases e : K.lookup (hp.objs.size + 1) with
    | none => rfl
    | some o =>
      have z : hp.get? (hp.objs.size + 1) = some o := X _ _ e
      exact absurd (Nat.lt_of_succ_lt (Heap.lt_size z)) (Nat.lt_irrefl _)
  refine call_own T.FB (fun Y => excTail_contains Y bm hbm) (X _ _ hC) (looks_findIn X T.iC) (fun self => bind_fn X self T.tC) (one_size v) ?_
  refine ini_run (s := ⟨(hp.push (kdv_tup [v])).push (excO C hp.objs.size), g, dr, tk, os⟩) T (X.keeps k) (hlim.keeps k) hget hnx ?_ fun h' tk' dx ⟨k', hx, dn, dne, hns⟩ => ?_
  · show A.depth + 1 < recursionLimit
    exact hroom
  · have old : ∀ b o, hp.get? b = some o → h'.get? b = some o := fun b o e => k' b o (Nat.ne_of_lt (Nat.lt_succ_of_lt (Heap.lt_size e))) (k b o e)
    have z : hp.objs.size + 1 + 1 ≤ dx := by
      first
        | (simpa only [Heap.size_push] using dn)
        | exact dn
        | (have q := dn; rw [Heap.size_push, Heap.size_push] at q; exact q)
    exact ⟨rfl, hq h' tk' (hp.objs.size + 1) dx ⟨old, Nat.le_succ _, ⟨_, _, hx, rfl, rfl, rfl, rfl, rfl⟩, Nat.le_trans (Nat.le_trans (Nat.le_succ _) (Nat.le_succ _)) z, dne, hns⟩⟩
end
end WX

namespace W1
open PySem PySem.Spec PyProof.Rows L2
theorem relO_one {f : Str} {v : V} {v' : Value} (r : RelV v v') (y : Str) : RelO (List.lookup y [(f, v)]) (if y = f then some v' else none) := by
  by_cases hw : y = f
  · subst hw
    rw [if_pos rfl]
    have q : List.lookup y [(y, v)] = some v := by simp [List.lookup]
    rw [q]
    exact r
  · rw [if_neg hw]
    have qw : (y == f) = false := by simpa using hw
    have q2 : List.lookup y [(f, v)] = none := by simp [List.lookup, qw]
    rw [q2]
    trivial
section
variable {X : Cx} {C fI : Addr} {f qual : Str} {params : Arguments} {body : List Stmt} {scope : Scope} {B newId initId : String} {bmB : List Value}
/-- C(e), C an own error of one field -/
def tMkI (C : Addr) (f : Str) (ta : TA) : L2.St → Hp → XK → Prop := fun σ H Q => ta σ H fun vs H1 => ∃ v, vs = [v] ∧ ∀ d, H1 d = none → Q (.ref C) (some d) (upd H1 d (.xd [(f, v)]))
theorem pmk_I {x : Str} {a : Expr} {ta : TA} {p pos : Pos} {k : Nat} (T : _root_.WX.ExcI X.K C fI f qual params body scope B newId initId bmB) (gC : X.mg x = some (.ref C)) (hr : Room k X.A) (ha : PA X [a] ta) (hg : Gl X x) (hdb : (x == ("__debug__" : Str)) = false := by decide)
    (he : starEach (a :: []) X.env = (false, eval a X.env) :: starEach [] X.env := by rfl) (hpl : (backTo pos (starEach [] X.env)).any (·.1) = false := by rfl) :
    L2N.PMk X (.Call (.Name x p) [a] [] pos) (tMkI C f ta) := by
  intro pins s σ H Q I h
  refine wpAny_Call_Name_kw (ld_glob I hg gC ?_ hdb)
  refine PySem.W.callWith_K (h₀ := X.base) I.ok.mod.kin T.kC (thn (ha.run pos pins s σ H _ I h) fun us s1 hh => ?_) he hpl
  obtain ⟨vs, H1, I1, r1, v, ev, q1⟩ := hh
  subst ev
  refine ⟨I1.kIn, ?_⟩
  cases r1 with
  | cons rv rn =>
    rename_i v' us'
    cases rn
    show wpAny _ _ (call (.ref C) [v']) _ _ _
    have hlim := I1.nolimit
    obtain ⟨hp, g, dr, tk, os⟩ := s1
    refine wpAny_call (_root_.WX.ini_made T I1.kIn hlim (by have := hr.dp; omega) fun h' tk' e d M => ?_)
    show L2N.MkP X pins σ Q (.ref e) ⟨h', g, dr, tk', os⟩
    obtain ⟨oe, fv, hoe, hc, hd, hdat, h1, h2⟩ := M.obj
    have hns := M.ns
    obtain ⟨G', g1, g2⟩ := restrict h' fun b => decide (b ≠ e)
    have gk : ∀ b, b ≠ e → G'.get? b = h'.get? b := fun b hb => g1 b (decide_eq_true hb)
    have ge : G'.get? e = none := g2 e (by simp)
    have old : ∀ b o, hp.get? b = some o → G'.get? b = some o := fun b o q => (gk b (Nat.ne_of_lt (Nat.lt_of_lt_of_le (Heap.lt_size q) M.new))).trans (M.keep b o q)
    have ob : ObjOk X.prog X.w (upd H1 d (.xd [(f, v)])) G' d (.xd [(f, v)]) :=
      ⟨_, hns.at (fun o q => (gk d M.dne).trans q), fun y => relO_one rv y⟩
    have J : Inv X pins σ (upd H1 d (.xd [(f, v)])) ⟨G', g, dr, tk', os⟩ := I1.laid (t' := tk') old M.dbig ob
    refine ⟨e, oe, fv, ⟨G', g, dr, tk', os⟩, _, .ref C, some d, rfl, J, fun b o q => ?_, ge, hoe, ⟨hc, hd, fun vs hv => ?_⟩, hdat, h1, ?_, rfl, I1.bare, raises_own T.exC T.tyC, q1 d (I1.hok.fresh M.dbig)⟩
    · by_cases hb : b = e
      · have q' : G'.get? b = some o := q
        rw [hb, ge] at q'; cases q'
      · exact (gk b hb).symm.trans q
    · rw [hdat] at hv
      cases hv
      exact h2
    · rw [upd_ne (Ne.symm M.dne)]
      exact I1.hok.fresh M.new
/-- C(), C an own error without an __init__ of its own -/
theorem pmk_0 {x : Str} {p pos : Pos} (F : ExcBaseFacts B newId initId bmB) (q : PySem.W.excIn X.K C bmB newId = true) (gC : X.mg x = some (.ref C)) (kC : PySem.W.keepIn X.K (.ref C) = true) (r : Raises X (.ref C)) (hg : Gl X x)
    (hdb : (x == ("__debug__" : Str)) = false := by decide) : L2N.PMk X (.Call (.Name x p) [] [] pos) (fun _ H Q => Q (.ref C) none H) := by
  intro pins s σ H Q I h
  refine wpAny_Call_Name_kw (ld_glob I hg gC ?_ hdb)
  refine PySem.W.callWith_K0 I.kIn kC ?_
  show wpAny _ _ (call (.ref C) []) _ _ _
  obtain ⟨bm, N, nm, qn, bs, hdct, sn, sub, ab, col, dd, k0, k1, k2, k3, k5, mN, hC, hN, hni, T⟩ := exc_obj I.kIn q
  refine wpAny_call_exc_subT F T hC hN hni (fun h' e hm => ?_) (by rw [sizeLine_eq]; decide)
  exact L2N.mk_of I hm r h (I.hok.gone hm.new)
end
end W1
end
section
/-! try: body, except (A, B, ..) as n: suite; a tuple of classes -/
namespace W1
open PySem PySem.Spec PyProof.Rows L2
theorem flying_kept {base h h' : Heap} {l : List Env} {e : Addr} {Z : Obj → Prop} (x : HandSPX.FlyingZ base l e Z h) (k : ∀ b o, h.get? b = some o → h'.get? b = some o) : HandSPX.FlyingZ base l e Z h' := by
  obtain ⟨a1, a2, a3, oe, vs, T, oT, ts, e1, e2, e3, e4, e5, e6, e7, e8, e9⟩ := x
  exact ⟨fun b o z => k b o (a1 b o z), a2, a3.of_keeps fun b o z _ => ⟨o, k b o z, rfl⟩, oe, vs, T, oT, ts, k _ _ e1, e2, e3, e4, e5, e6, k _ _ e7, e8, e9⟩
/-- the test of a clause: it makes at most one object (the tuple) and says whether the exception's class is among cs -/
def Tst (X : Cx) (tx : Expr) (cs : List Value) : Prop := ∀ (a : Addr) (pn pins : List (Addr × Obj)) (σ : L2.St) (H : Hp) (s : Shared) (cls : Value) (b : Bool) (E : Value → Shared → Prop),
  Inv (X.suite a pn) pins σ H s → PySem.W.Looks (model X.prog X.w) s.heap (typeOf (.ref a)) cls → PySem.W.exmAny X.K cls cs = some b →
  wpAny (model X.prog X.w) (X.A.mark (some (.ref a))) (eval tx X.env) (fun c s₁ => (∃ h', s₁ = { s with heap := h' } ∧ ∀ b o, s.heap.get? b = some o → h'.get? b = some o) ∧ PySem.W.Looks (model X.prog X.w) s₁.heap (excMatches (.ref a) c) b) E s
theorem ld_names {X : Cx} {x : Str} {c : Value} {np : Pos} {a : Addr} {pn pins : List (Addr × Obj)} {σ : L2.St} {H : Hp} {s : Shared} (hc : Names X x c) (I : Inv (X.suite a pn) pins σ H s) {Q : Value → Shared → Prop} {E : Value → Shared → Prop} (q : Q c s) :
    wpAny (model X.prog X.w) (X.A.mark (some (.ref a))) (eval (.Name x np) X.env) Q E s := by
  obtain ⟨hg, hdbg, hm | ⟨hm, hv, hnn⟩⟩ := hc
  · exact ld_glob (X := X.suite a pn) I hg hm q hdbg
  · exact ld_blt (X := X.suite a pn) I hg hm hv q hnn hdbg
theorem tst1 {X : Cx} {x : Str} {c : Value} {np : Pos} (hc : Names X x c) : Tst X (.Name x np) [c] := fun a pn pins σ H s cls b E I LT he => by
  have he1 : PySem.W.exmOne X.K cls c = some b := by
    obtain ⟨b1, d1, h1, h2, h3⟩ := PySem.W.exmAny_cons he
    have h4 : some false = some d1 := h2
    cases h4
    rw [h3, Bool.or_false]
    exact h1
  exact ld_names hc I ⟨⟨s.heap, rfl, fun _ _ z => z⟩, PySem.W.exm_one I.kIn LT he1⟩
theorem tst2 {X : Cx} {x1 x2 : Str} {c1 c2 : Value} {p1 p2 tp : Pos} {kk} (n1 : Names X x1 c1) (n2 : Names X x2 c2) : Tst X (.Tuple [.Name x1 p1, .Name x2 p2] kk tp) [c1, c2] := fun a pn pins σ H s cls b E I LT he => by
  refine wpAny_Tuple ?_
  refine wpAny_items_cons (ld_names n1 I ?_)
  refine wpAny_items_cons (ld_names n2 I ?_)
  refine wpAny_items_nil ⟨by size_fits, ?_⟩
  have kp : ∀ q o, s.heap.get? q = some o → (s.heap.push { cls := .type "tuple", data := .seq [c1, c2].toArray }).get? q = some o := fun _ _ z => Heap.get?_push_of_some _ z
  exact ⟨⟨_, rfl, kp⟩, PySem.W.exm_tup2 (I.kIn.keeps kp) (LT.keeps kp) (Heap.get?_push_size s.heap rfl) he⟩
theorem tst3 {X : Cx} {x1 x2 x3 : Str} {c1 c2 c3 : Value} {p1 p2 p3 tp : Pos} {kk} (n1 : Names X x1 c1) (n2 : Names X x2 c2) (n3 : Names X x3 c3) : Tst X (.Tuple [.Name x1 p1, .Name x2 p2, .Name x3 p3] kk tp) [c1, c2, c3] := fun a pn pins σ H s cls b E I LT he => by
  refine wpAny_Tuple ?_
  refine wpAny_items_cons (ld_names n1 I ?_)
  refine wpAny_items_cons (ld_names n2 I ?_)
  refine wpAny_items_cons (ld_names n3 I ?_)
  refine wpAny_items_nil ⟨by size_fits, ?_⟩
  have kp : ∀ q o, s.heap.get? q = some o → (s.heap.push { cls := .type "tuple", data := .seq [c1, c2, c3].toArray }).get? q = some o := fun _ _ z => Heap.get?_push_of_some _ z
  exact ⟨⟨_, rfl, kp⟩, PySem.W.exm_tup3 (I.kIn.keeps kp) (LT.keeps kp) (Heap.get?_push_size s.heap rfl) he⟩
/-- what the clause 'except .. as n' wishes of an exception of the body: slot i is n's -/
def wAsT (K : PySem.W.Frag) (cs : List Value) (i : Nat) (ts : Addr → Value → Option Addr → TS) (Wout : WX) (D : Ends) : WX := fun cls d σ H =>
  ∃ b, PySem.W.exmAny K cls cs = some b ∧ (b = true → ∀ a, H a = none → ts a cls d { nx := fun σ' H' => D.nx (σ'.set i none) H', rt := D.rt, bk := fun σ' H' => D.bk (σ'.set i none) H', ct := fun σ' H' => D.ct (σ'.set i none) H' } (σ.set i (some (.ref a))) H) ∧
    (b = false → Wout cls d σ H)
section
variable {X : Cx} {n : Str} {i : Nat} {cs : List Value} {body suite : List Stmt} {b₀ : Stmt} {tx : Expr} {pos pos' : Pos} {tb : WX → TS} {ts : Addr → Value → Option Addr → TS} {Wout : WX}
theorem ps_try_asT (hs : X.stack = X.env :: X.outer) (hf : X.env.frame = some X.env.locals) (hN : X.N.Nodup) (hi : X.N[i]? = some n) (hln : X.env.kindOf n = some .local) (hc : Tst X tx cs) (tk : L2N.Takes X Wout)
    (hb : ∀ (W : WX) (pn : List (Addr × Obj)) (xe : Value → Shared → Prop), L2N.Takes (X.tr pn xe) W → PassesOwn (model X.prog X.w) X.A X.env xe → PSs (X.tr pn xe) body (tb W))
    (hsu : ∀ (a : Addr) (oe : Obj) (cls : Value) (d : Option Addr) (pn : List (Addr × Obj)), L2N.Zn cls d oe → (∃ vs, oe.data = .fields vs) → PSs (X.suite a ((a, oe) :: pn)) (b₀ :: suite) (ts a cls d)) :
    PS X (.Try body [.ExceptHandler (some tx) (some n) (b₀ :: suite) pos'] [] [] pos) (fun D σ H => tb (wAsT X.K cs i ts Wout D) D σ H) := by
  refine ⟨fun pins s σ H D I h => ?_⟩
  have ok := I.ok
  have hfr : X.A.frames = some (X.env :: X.outer) := by rw [ok.frames, hs]
  have hloc : Loc X.env.scope n := .inl hln
  refine wpAny_Try_except ?_
  refine wpAny_mono ((hb (wAsT X.K cs i ts Wout D) (X.pn ++ pins) (fun e s₁ => wpAny (model X.prog X.w) X.A (noteFrame e X.env) (fun _ s₂ => wpAny (model X.prog X.w) X.A (setFlight e none) (fun _ s₃ =>
    wpAny (model X.prog X.w) X.A (handleBy e X.env [.ExceptHandler (some tx) (some n) (b₀ :: suite) pos']) (SP X pins D) X.xe s₃) X.xe s₂) X.xe s₁) (fun u s' xx => ?_) PassesOwn.looking).run [] s σ H D (I.toTry _) h) (fun f s1 hsp => ?_) (fun e s1 he => he)
  · -- the catch
    obtain ⟨a, B, sI, pins', σ', H', cls, d, rfl, J', nb, up, sky, na, os, ag, b, hb1, hyes, hno⟩ := xx
    have J : Inv X pins σ' H' sI := J'.ofTry ok
    have sky' : Sky B (X.env :: X.outer) a (L2N.Zn cls d) X.env.locals s'.heap := by rw [← hs]; exact sky
    show wpAny (model X.prog X.w) X.A (noteFrame (.ref a) X.env) _ _ _
    refine L2N.Sky.land L2N.Zn.steady hfr hf sky' fun h2 fl2 up2 => ?_
    have J2 : Inv X pins σ' H' { s' with heap := h2 } := J.landed nb fl2.1 (up.trans up2) os ag
    obtain ⟨oe2, vs2, he2, hz2, hd2⟩ := fl2.there
    have notFr : ∀ {h : Heap} {o : Obj} {vs : Array Value}, h.FunFrames B (X.env :: X.outer) → h.get? a = some o → o.data = .fields vs → a ∉ frs (X.env :: X.outer) := fun {h o vs} ff e dd hm => by
      obtain ⟨_, o', e', hnf⟩ := ff.mem hm
      rw [e] at e'; cases e'
      exact hnf _ dd
    have nfr := notFr fl2.2.2.1 he2 hd2
    have nL : a ≠ X.env.locals := fun z => nfr (List.mem_filterMap.mpr ⟨X.env, List.mem_cons_self, by rw [hf, z]⟩)
    have nF : a ∉ X.fs := fun hm => by
      obtain ⟨e, he, q⟩ := List.mem_filterMap.mp hm
      exact nfr (List.mem_filterMap.mpr ⟨e, List.mem_cons_of_mem _ he, q⟩)
    have S2 := J2.suite he2 hd2 na nL nF
    refine wpAny_handleBy_cons (codeAny_handlers_test ?_) (by intro q; cases q)
    have LT : PySem.W.Looks (model X.prog X.w) h2 (typeOf (.ref a)) cls := fun A Q E s k q => wpAny_typeOf_ref (k _ _ he2) (by rw [hz2.1]; exact q)
    refine thn (hc a _ [] σ' H' { s' with heap := h2 } cls b _ S2 LT hb1) fun c s3 ⟨⟨h3, es3, k3⟩, LM⟩ => ?_
    subst es3
    have fl3 := flying_kept fl2 k3
    have up3 : s'.heap.UpToSlots h3 := up2.trans (Heap.UpToSlots.of_keeps k3)
    refine LM.here ?_
    cases b with
    | true =>
      refine codeAny_handlers_suite_as ?_
      refine HandSPX.lands_againZ (s := { s' with heap := h3 }) fl3 fun h4 fl4 up4 => ?_
      have J4 : Inv X pins σ' H' { s' with heap := h4 } := J.landed nb fl4.1 ((up.trans up3).trans up4) os ag
      obtain ⟨oe4, vs4, he4, hz4, hd4⟩ := fl4.there
      have S4 := J4.suite he4 hd4 na nL nF
      refine store_ok (X := X.suite a ((a, oe4) :: (X.pn ++ pins))) (v := .ref a) S4 hN hi hloc rfl (fun s5 S5 => ?_) (.inr hln)
      refine wpAny_mono ((hsu a oe4 cls d (X.pn ++ pins) hz4 ⟨_, hd4⟩).run [] s5 _ H' _ S5 (hyes rfl a na)) (fun f s6 hsp => ?_) (fun _ _ z => False.elim z)
      have end_ : ∀ {σ6 : L2.St} {H6 : Hp} {Q : Shared → Prop}, Inv (X.suite a ((a, oe4) :: (X.pn ++ pins))) [] σ6 H6 s6 → (∀ s7, Inv X pins (σ6.set i none) H6 s7 → Q s7) →
          wpAny (model X.prog X.w) X.A (do bindName X.env n .none; unbindBehindTheSuite X.env n pos') (fun _ s7 => Q s7) X.xe s6 := fun {σ6 H6 Q} S6 hq => gone_ok (S6.unsuite ok) hN hi hln hq
      cases f with
      | next =>
        obtain ⟨σ6, H6, S6, q6⟩ := hsp
        exact end_ S6 fun s7 J7 => ⟨_, _, J7, q6⟩
      | brk =>
        obtain ⟨σ6, H6, S6, q6⟩ := hsp
        exact end_ S6 fun s7 J7 => ⟨_, _, J7, q6⟩
      | cont =>
        obtain ⟨σ6, H6, S6, q6⟩ := hsp
        exact end_ S6 fun s7 J7 => ⟨_, _, J7, q6⟩
      | ret u =>
        obtain ⟨v6, σ6, H6, S6, r6, q6⟩ := hsp
        exact end_ S6 fun s7 J7 => ⟨_, _, _, J7, r6, q6⟩
    | false =>
      show wpAny _ X.A (handleBy (.ref a) X.env []) _ _ _
      refine wpAny_handleBy_nil ?_
      obtain ⟨k1, k2, k3', oe, vs, T, oT, ts', he, hz, hd, h1, hr⟩ := id fl3
      unfold PySem.passOn
      refine wpAny_bind (wpAny_field he hd h1 ?_)
      rw [if_neg (show ¬ ((Value.ref T == Value.none) = true) from by simp)]
      have fin : wpAny (model X.prog X.w) X.A (setFlight (.ref a) X.env.frame) (fun _ s4 => wpAny (model X.prog X.w) X.A (throw (.ref a) : Sem Flow) (SP X pins D) X.xe s4) X.xe { s' with heap := h3 } := by
        rw [hf]
        refine HandSPX.setFlight_upZ (s := { s' with heap := h3 }) fl3 fun h4 hh4 up4 => wpAny_throw (tk _ _ ?_)
        exact ⟨a, B, sI, pins, σ', H', cls, d, rfl, J, nb, (up.trans up3).trans up4, .inr (.inr (by rw [hs]; exact hh4)), na, os, ag, hno rfl⟩
      first
        | exact wpAny_bind (wpAny_pure (wpAny_bind fin))
        | exact wpAny_bind fin
  · cases f with
    | next =>
      obtain ⟨σ', H', J', q⟩ := hsp
      exact wpAny_execs_nil ⟨σ', H', J'.ofTry ok, q⟩
    | brk =>
      obtain ⟨σ', H', J', q⟩ := hsp
      exact ⟨σ', H', J'.ofTry ok, q⟩
    | cont =>
      obtain ⟨σ', H', J', q⟩ := hsp
      exact ⟨σ', H', J'.ofTry ok, q⟩
    | ret u =>
      obtain ⟨v, σ', H', J', r, q⟩ := hsp
      exact ⟨v, σ', H', J'.ofTry ok, r, q⟩
end
end W1
end
section
/-! within an except suite: defs that take the caught exception; isinstance of it, its field; a list comprehension over a list of tuples -/
namespace WH
open PySem PySem.Spec PyProof.Rows HotX
section
variable {prog : Program} {w : World} {A : Around} {E : Value → Shared → Prop} {s : Shared}
theorem list_end_hot {it l x1 : Addr} {i : Nat} {items : Array Value} {Q : Option Value → Shared → Prop} (hot : HotAt A x1 s.heap) (hne : x1 ≠ it)
    (hit : s.heap.IsListIter it l i) (hl : s.heap.IsList l items) (hx : items[i]? = none)
    (hQ : ∀ h', Heap.ExtBut it s.heap h' → Q none { s with heap := h' }) : wpAny (model prog w) A (pyNext (.ref it)) Q E s := by
  obtain ⟨o, ho, hc, hd⟩ := id hit
  obtain ⟨ol, hol, _, nl, hdl⟩ := hl
  obtain ⟨hh, o1, vs1, h1, d1, c1⟩ := hot
  unfold pyNext
  refine wpAny_bind (wpAny_attempt (wpAny_callSpecial?_slot (name := Str.ofString "__next__") hit.typeIs slot_listiter_next
    (wpAny_call_entry slot_listiter_next hit.typeIs entry_listiter_next ?_ (args_listiter_next _))))
  show wpAny _ _ (field (.ref it) 0 >>= _) _ _ s
  refine wpAny_bind (wpAny_field ho hd (x := .ref l) rfl ?_)
  show wpAny _ _ (if (Value.ref l == Value.none) = true then _ else _) _ _ s
  rw [if_neg (show ¬ ((Value.ref l == Value.none) = true) from Bool.false_ne_true)]
  show wpAny _ _ (field (.ref it) 1 >>= _) _ _ s
  refine wpAny_bind (wpAny_field ho hd (x := .int i 0) rfl ?_)
  show wpAny _ _ (seqItems? (.ref l) >>= _) _ _ s
  refine wpAny_bind (wpAny_seqItems hol hdl ?_)
  simp only [Int.toNat_natCast, hx]
  refine wpAny_bind (wpAny_rule (wpAny_bind (wpAny_setField ho hd (by simp) ?_)))
  show wpAny _ _ (newExc (.type "StopIteration") [] >>= _) _ _ _
  refine wpAny_bind ?_
  simp only [newExc, newTuple]
  refine wpAny_bind (wpAny_newObj_type ?_ (by size_fits))
  refine wpAny_bind (m := firstArgMember _ _) (wpAny_of_eq (a := Value.none) (by first | rfl | (simp only [firstArgMember]; rfl)) ?_)
  refine wpAny_newObj_type ?_ (by size_fits)
  have g1 := (Heap.get?_update_other s.heap (Obj.mapFields (·.setIfInBounds 0 Value.none)) (Ne.symm hne)).trans h1
  refine raiseNew_hot ⟨hh, o1, vs1, Heap.get?_push_of_some _ (Heap.get?_push_of_some _ g1), d1, c1⟩ (Nat.ne_of_lt (Heap.lt_size (Heap.get?_push_of_some _ g1))) (Heap.get?_push_size _ rfl) rfl (by first | (simp; done) | (simp; omega) | (simp only [Array.size_append]; simp; omega)) ?_
  refine wpAny_bind (wpAny_isInstance (T := "StopIteration") (b := true) ⟨_, Heap.get?_update_self _ (Heap.get?_push_size _ rfl) rfl, rfl⟩ isSubtype_stop ?_)
  refine wpAny_pure (hQ _ fun b o hb e => ?_)
  have g2 := (Heap.get?_update_other s.heap (Obj.mapFields (·.setIfInBounds 0 Value.none)) (Ne.symm hb)).trans e
  rw [Heap.get?_update_other _ _ (Nat.ne_of_gt (Heap.lt_size (Heap.get?_push_of_some _ g2)))]
  exact Heap.get?_push_of_some _ (Heap.get?_push_of_some _ g2)
theorem tuple_end_hot {it t x1 : Addr} {i : Nat} {items : Array Value} {Q : Option Value → Shared → Prop} (hot : HotAt A x1 s.heap) (hne : x1 ≠ it)
    (hit : IsTupIter s.heap it t i) (ht : IsTup s.heap t items) (hx : items[i]? = none)
    (hQ : ∀ h', Heap.ExtBut it s.heap h' → Q none { s with heap := h' }) : wpAny (model prog w) A (pyNext (.ref it)) Q E s := by
  obtain ⟨o, ho, hc, hd⟩ := id hit
  obtain ⟨ol, hol, _, nl, hdl⟩ := ht
  obtain ⟨hh, o1, vs1, h1, d1, c1⟩ := hot
  unfold pyNext
  refine wpAny_bind (wpAny_attempt (wpAny_callSpecial?_slot (name := Str.ofString "__next__") hit.typeIs slot_tupleiter_next
    (wpAny_call_entry slot_tupleiter_next hit.typeIs entry_tupleiter_next ?_ (args_tupleiter_next _))))
  show wpAny _ _ (field (.ref it) 0 >>= _) _ _ s
  refine wpAny_bind (wpAny_field ho hd (x := .ref t) rfl ?_)
  show wpAny _ _ (if (Value.ref t == Value.none) = true then _ else _) _ _ s
  rw [if_neg (show ¬ ((Value.ref t == Value.none) = true) from Bool.false_ne_true)]
  show wpAny _ _ (field (.ref it) 1 >>= _) _ _ s
  refine wpAny_bind (wpAny_field ho hd (x := .int i 0) rfl ?_)
  show wpAny _ _ (seqItems? (.ref t) >>= _) _ _ s
  refine wpAny_bind (wpAny_seqItems hol hdl ?_)
  simp only [Int.toNat_natCast, hx]
  refine wpAny_bind (wpAny_rule (wpAny_bind (wpAny_setField ho hd (by simp) ?_)))
  show wpAny _ _ (newExc (.type "StopIteration") [] >>= _) _ _ _
  refine wpAny_bind ?_
  simp only [newExc, newTuple]
  refine wpAny_bind (wpAny_newObj_type ?_ (by size_fits))
  refine wpAny_bind (m := firstArgMember _ _) (wpAny_of_eq (a := Value.none) (by first | rfl | (simp only [firstArgMember]; rfl)) ?_)
  refine wpAny_newObj_type ?_ (by size_fits)
  have g1 := (Heap.get?_update_other s.heap (Obj.mapFields (·.setIfInBounds 0 Value.none)) (Ne.symm hne)).trans h1
  refine raiseNew_hot ⟨hh, o1, vs1, Heap.get?_push_of_some _ (Heap.get?_push_of_some _ g1), d1, c1⟩ (Nat.ne_of_lt (Heap.lt_size (Heap.get?_push_of_some _ g1))) (Heap.get?_push_size _ rfl) rfl (by first | (simp; done) | (simp; omega) | (simp only [Array.size_append]; simp; omega)) ?_
  refine wpAny_bind (wpAny_isInstance (T := "StopIteration") (b := true) ⟨_, Heap.get?_update_self _ (Heap.get?_push_size _ rfl) rfl, rfl⟩ isSubtype_stop ?_)
  refine wpAny_pure (hQ _ fun b o hb e => ?_)
  have g2 := (Heap.get?_update_other s.heap (Obj.mapFields (·.setIfInBounds 0 Value.none)) (Ne.symm hb)).trans e
  rw [Heap.get?_update_other _ _ (Nat.ne_of_gt (Heap.lt_size (Heap.get?_push_of_some _ g2)))]
  exact Heap.get?_push_of_some _ (Heap.get?_push_of_some _ g2)
theorem unpack_hot {x1 t : Addr} {items : Array Value} {targets : List (Bool × (Value → Sem Unit))} {Q : Unit → Shared → Prop} (hot : HotAt A x1 s.heap) (ht : IsTup s.heap t items)
    (hn : targets.length = items.size) (hstar : targets.findIdx? (·.1) = none)
    (h : ∀ h', Heap.ExtBut s.heap.objs.size s.heap h' → wpAny (model prog w) A (assignInOrder (targets.map (·.2)) items.toList) Q E { s with heap := h' }) :
    wpAny (model prog w) A (unpack (.ref t) targets) Q E s := by
  obtain ⟨hh, o1, vs1, h1, d1, c1⟩ := hot
  unfold unpack
  rw [hn, hstar]
  refine wpAny_bind (wpAny_holding ?_)
  have hlt : t ≠ s.heap.objs.size := by obtain ⟨o, ho, _⟩ := ht; exact Nat.ne_of_lt (Heap.lt_size ho)
  have hx1 : x1 ≠ s.heap.objs.size := Nat.ne_of_lt (Heap.lt_size h1)
  unfold unpackItems
  refine wpAny_bind ?_
  · unfold notIterableAtAll
    refine wpAny_bind (wpAny_specialOf ht.typeIs slot_tuple_iter.lookup ?_)
    refine wpAny_pure ?_
    simp only [Bool.false_eq_true, if_false]
    refine wpAny_bind (wpAny_holding (iter_tuple ht ?_))
    refine wpAny_bind (wpAny_holding (draw_tuple hlt items.size 0 _ _ ⟨_, Heap.get?_push_size _ rfl, rfl, rfl⟩ (ht.push _) (by omega) fun h₁ hit₁ hs₁ => ?_))
    have hall : List.take items.size (List.drop 0 items.toList) = items.toList := by
      rw [List.drop_zero]; exact List.take_of_length_le (by simp)
    rw [hall]
    rw [if_neg (by simp)]
    have ht₁ : IsTup h₁ t items := (ht.push _).extBut hs₁.extBut hlt
    have g1 : h₁.get? x1 = some o1 := hs₁.extBut x1 o1 hx1 (Heap.get?_push_of_some _ h1)
    refine wpAny_bind (wpAny_holding (tuple_end_hot (s := { s with heap := h₁ }) ⟨hh, o1, vs1, g1, d1, c1⟩ hx1 hit₁ ht₁ (by simp) fun h₂ he₂ => ?_))
    simp only [Option.isSome_none, Bool.false_eq_true, if_false]
    exact wpAny_pure (h h₂ fun b o hb e => he₂ b o hb (hs₁.extBut b o hb (Heap.get?_push_of_some _ e)))
end
end WH

namespace W1
open PySem PySem.Spec PyProof.Rows L2 HotX L2H
/-! ### what a def promises that is handed the exception at a (class cls, dict d) -/
structure FnE (P : Program) (w : World) (K : PySem.W.Frag) (mg : Str → Option Value) (base : Heap) (k : Nat) (f : Addr) (fd : FuncData) (ps : List Str) (sp : Addr → Value → Option Addr → Sp) : Prop where
  len : ∀ a cls d vs H Q E, sp a cls d vs H Q E → vs.length = ps.length
  run : ∀ (A : Around) (outer : List Env) (s : Shared) (H : Hp) (args : Args) (us : List Value) (vs : List V) (Q : VK) (p : Addr × Obj) (cls : Value) (d : Option Addr), RoomH k A → A.handled = some (.ref p.1) → PinOk outer H s p → L2N.Zn cls d p.2 → (∃ fv, p.2.data = .fields fv) →
    Env0 P w K mg base A outer s H → BindsTo s fd args (ps.zip us) → Vals vs us → sp p.1 cls d vs H Q E0 → codeAny (model P w) A (.call (.ref f) args) (CR CX0 outer P w H s Q E0) s
theorem FnE.mono {P : Program} {w : World} {K : PySem.W.Frag} {mg : Str → Option Value} {base : Heap} {j k : Nat} {f : Addr} {fd : FuncData} {ps : List Str} {sp : Addr → Value → Option Addr → Sp} (F : FnE P w K mg base j f fd ps sp) (h : j ≤ k) : FnE P w K mg base k f fd ps sp :=
  ⟨F.len, fun A outer s H args us vs Q p cls d hr => F.run A outer s H args us vs Q p cls d (hr.mono h)⟩
/-- the context of such a body -/
structure HotP (X : Cx) (a : Addr) (oe : Obj) (cls : Value) (d : Option Addr) : Prop where
  mem : (a, oe) ∈ X.pn
  hd : X.A.handled = some (.ref a)
  z : L2N.Zn cls d oe
  f : ∃ fv, oe.data = .fields fv
theorem HotP.hot {X : Cx} {a : Addr} {oe : Obj} {cls : Value} {d : Option Addr} (h : HotP X a oe cls d) : HotC X := by
  obtain ⟨fv, e⟩ := h.f
  exact ⟨(a, oe), ⟨h.hd, fv, e, h.z.2.2 fv e⟩, h.mem⟩
theorem HotP.suite {X : Cx} {a : Addr} {oe : Obj} {cls : Value} {d : Option Addr} {pn : List (Addr × Obj)} (z : L2N.Zn cls d oe) (f : ∃ fv, oe.data = .fields fv) : HotP (X.suite a ((a, oe) :: pn)) a oe cls d := ⟨List.mem_cons_self, rfl, z, f⟩
theorem fn_ofE {P : Program} {w : World} {K : PySem.W.Frag} {mg : Str → Option Value} {base : Heap} {k : Nat} {f : Addr} {x qual : Str} {params : Arguments} {body : List Stmt} {scope : Scope} {fd : FuncData} {N ps : List Str} {sp : Addr → Value → Option Addr → Sp}
    (F : FunD K x qual params body scope [] [] f fd) (S : FnScope N ps scope) (len : ∀ a cls d vs H Q E, sp a cls d vs H Q E → vs.length = ps.length)
    (hbody : ∀ (cdv : Value) (A : Around) (outer : List Env) (s : Shared) (H : Hp) (vs : List V) (Q : VK) (a : Addr) (oe : Obj) (cls : Value) (d : Option Addr), RoomH k (A.deeper (envOfC qual scope s.heap.objs.size f cdv)) →
      HotP (cxH CX0 P w K mg base N qual scope f cdv A outer s H E0 (a, oe)) a oe cls d → sp a cls d vs H Q E0 →
      ∃ t, PSs (cxH CX0 P w K mg base N qual scope f cdv A outer s H E0 (a, oe)) body t ∧ t { nx := fun _ H' => Q .non H', rt := Q } (L2.start N vs) H) :
    FnE P w K mg base (k + 1) f fd ps sp := by
  obtain ⟨oc, od, dV, kV, doc, pm, an, cdv, ct, osl, rfl, lk, hcd, _, _⟩ := F.ex
  refine ⟨len, fun A outer s H args us vs Q p cls d hr hot hpin hz hf e0 hb r hsp => ?_⟩
  have hl := len _ _ _ _ _ _ _ hsp
  have KX : K.In s.heap := e0.mod.kin.keeps fun b o e => (e0.bs b o e).1
  have lim : s.heap.NoLimit := e0.mod.nolimit.keeps fun b o e => (e0.bs b o e).1
  have hkind : ∀ y ∈ ps.zip us, scope.names.lookup y.1 = some .local ∨ (scope.names.lookup y.1 = some .cell ∧ ((cellsFrom (s.heap.objs.size + 1) scope.names []).lookup y.1).isSome = true) := fun ⟨n, v⟩ hy => by
    rcases S.par n (List.of_mem_zip hy).1 with q | q
    · exact .inl q
    · exact .inr ⟨q, PySem.W.cellsFrom_some _ _ _ (.inl q)⟩
  refine codeAny_call_function hr.depth (KX _ _ lk) rfl S.co S.gen rfl (PySem.W.codeRec_of KX hcd) (hb _ _ _ _ ?_)
  refine wpAny_newFunctionEnv_cells S.kind hkind fun env he s1 x => ?_
  subst he
  refine ⟨lim.keeps x.toInCall.keep, codeAny_func ?_⟩
  obtain ⟨p1, p2⟩ := p
  obtain ⟨t, ht, hq⟩ := hbody cdv A outer s H vs Q p1 p2 cls d (hr.deeper _) ⟨List.mem_cons_self, hot, hz, hf⟩ hsp
  have I : Inv (cxH CX0 P w K mg base N qual scope f cdv A outer s H E0 (p1, p2)) [] (L2.start N vs) H s1 := inv_startH S hpin e0 hl r x
  refine wpAny_mono (ht.run [] s1 (L2.start N vs) H _ I hq) (fun fl s' hs => ?_) fun e s' hs => hs
  have fin : ∀ {σ' : L2.St} {H' : Hp} {v : V} {u : Value}, Inv (cxH CX0 P w K mg base N qual scope f cdv A outer s H E0 (p1, p2)) [] σ' H' s' → RelV v u → Q v H' → CE outer P w H s Q u s' :=
    fun {σ' H' v u} J rv q => ⟨v, H', J.os, J.bare, J.base, J.hok, rv, q⟩
  cases fl with
  | ret u =>
    obtain ⟨v, σ', H', J, rv, q⟩ := hs
    exact fin J rv q
  | next =>
    obtain ⟨σ', H', J, q⟩ := hs
    exact fin (v := V.non) (u := Value.none) J rfl q
  | brk =>
    obtain ⟨_, _, _, q⟩ := hs
    exact False.elim q
  | cont =>
    obtain ⟨_, _, _, q⟩ := hs
    exact False.elim q
section
variable {X : Cx} {k : Nat} {f C a : Addr} {oe : Obj} {cls : Value} {d : Option Addr} {fd : FuncData} {ps : List Str} {sp : Addr → Value → Option Addr → Sp} {x : Str} {q pos : Pos} {e : Expr} {es : List Expr} {t : TA}
/-- f(e, ..) within the suite -/
def tCallE (sp : Sp) (t : TA) : TE := fun σ H Q => t σ H fun vs H1 => sp vs H1 Q E0
theorem pe_callE (hP : HotP X a oe cls d) (F : FnE X.prog X.w X.K X.mg X.base k f fd ps sp) (hr : RoomH k X.A) (hg : Gl X x) (hm : X.mg x = some (.ref f)) (hk : PySem.W.keepIn X.K (.ref f) = true) (hb : Binds X.K fd ps [])
    (ha : PA X (e :: es) t) (hdb : (x == ("__debug__" : Str)) = false := by decide) (he : starEach (e :: es) X.env = (false, eval e X.env) :: starEach es X.env := by rfl) (hpl : (backTo pos (starEach es X.env)).any (·.1) = false := by rfl) :
    PE X (.Call (.Name x q) (e :: es) [] pos) (tCallE (sp a cls d) t) := by
  refine ⟨fun pins s σ H Q I h => ?_⟩
  refine wpAny_Call_Name_kw (ld_glob I hg hm ?_ hdb)
  refine PySem.W.callWith_K (h₀ := X.base) I.ok.mod.kin hk (thn (ha.run pos pins s σ H _ I h) fun us s1 ⟨vs, H1, I1, r, q⟩ => ⟨I1.kIn, ?_⟩) he hpl
  have hl : us.length = ps.length := by rw [← r.length]; exact F.len _ _ _ _ _ _ _ q
  have b := hb s1 us I1.kIn (by rw [List.append_nil]; exact hl)
  rw [List.append_nil] at b
  have P1 := I1.pin (a, oe) (List.mem_append_left _ hP.mem)
  have hpin : PinOk X.stack H1 s1 (a, oe) := ⟨P1.1, P1.2.1, fun hm => (List.mem_cons.mp (I1.stkSub a hm)).elim P1.2.2.1 P1.2.2.2.1, P1.2.2.2.2⟩
  refine wpAny_call (codeAny_mono (F.run X.A X.stack s1 H1 ⟨us, []⟩ us vs Q (a, oe) cls d hr hP.hd hpin hP.z hP.f I1.env0 b r q) fun r s' hq => ?_)
  cases r with
  | error e => exact False.elim hq
  | ok fl =>
    cases fl with
    | ret u => exact I1.after hq
    | next => exact False.elim hq
    | brk => exact False.elim hq
    | cont => exact False.elim hq
/-! ### isinstance of the exception -/
/-- what its class at D must say -/
structure ExcD (K : PySem.W.Frag) (D : Addr) : Prop where
  cl : (PySem.W.clsIn K D).isSome = true
  hg : PySem.W.findIn K (.ref D) "__getattribute__" = some (some (.builtin "BaseException.__getattribute__"))
  hk : PySem.W.findIn K (.ref D) "__getattr__" = some none
  hs : PySem.W.subIn K (.ref D) (.type "BaseException") = some true
  hd : PySem.W.hasDictIn K D = true
  ha : PySem.W.findIn K (.ref D) "__class__" = some (some (.builtin "object.__class__"))
  hn : PySem.W.specialIn K (.builtin "object.__class__") "__get__" = some (some (.builtin "getset_descriptor.__get__"))
  ht : PySem.W.takesIn K (.builtin "object.__class__") = some true
  hm : PySem.W.mroIn K D (.type "object") = some true
/-- its dict, if it has one, is tracked -/
def DOk (d : Option Addr) (H : Hp) : Prop := ∀ dd, d = some dd → ∃ fs, H dd = some (.xd fs)
theorem inst_at {D : Addr} {pins : List (Addr × Obj)} {σ : L2.St} {H : Hp} {s : Shared} (hP : HotP X a oe (.ref D) d) (I : Inv X pins σ H s) (hd : DOk d H) : ∃ od, PySem.W.InstAt s.heap a oe D od := by
  obtain ⟨hget, _⟩ := I.pin (a, oe) (List.mem_append.mpr (.inl hP.mem))
  obtain ⟨vs, hv⟩ := hP.f
  obtain ⟨h1, h2, _⟩ := hP.z
  cases d with
  | none => exact ⟨none, hget, h1, by unfold PySem.W.notCls; rw [hv], by rw [h2]; trivial⟩
  | some dd =>
    obtain ⟨fs, e⟩ := hd dd rfl
    obtain ⟨mA, ⟨o, es, ep, ho, _⟩, _⟩ := (show ObjOk X.prog X.w H s.heap dd (.xd fs) from I.hok dd _ e)
    exact ⟨some o, hget, h1, by unfold PySem.W.notCls; rw [hv], by rw [h2]; exact ho⟩
def rIsE1 (K : PySem.W.Frag) (D a : Addr) (d : Option Addr) : List V → Hp → VK → Prop := fun xs H Q => ∃ (c : V) (u : Value) (b : Bool), xs = [.ref a, c] ∧ (∀ z, RelV c z → z = u) ∧ DOk d H ∧ PySem.W.kitOne K (.ref D) u = some b ∧ Q (.bl b) H
theorem call_isE1 {D : Addr} (hP : HotP X a oe (.ref D) d) (C : ExcD X.K D) : CallR X (.builtin "isinstance") (rIsE1 X.K D a d) := by
  intro pins s σ H xs us Q I r h
  obtain ⟨c, cv, b, rfl, hcv, hd, e, q⟩ := h
  cases r with
  | cons rx rr =>
    cases rr with
    | cons rt rr =>
      cases rr
      cases rx
      have ec := hcv _ rt
      subst ec
      obtain ⟨od, J⟩ := inst_at hP I hd
      exact PySem.W.kia_one (PySem.W.kitx_exc C.cl C.hg C.hk C.hs C.ha C.hn C.ht C.hm) I.kIn J e (fun z => nomatch z) fun tk => ⟨.bl b, H, I.kept (t' := tk) fun _ _ z => z, rfl, q⟩
/-- isinstance(e, (A, B, ..)): the tuple made on the way -/
def rIsEN (K : PySem.W.Frag) (D a : Addr) (d : Option Addr) : List V → Hp → VK → Prop := fun xs H Q => ∃ (tp : Addr) (cs : List V) (us : List Value) (b : Bool), xs = [.ref a, .ref tp] ∧ H tp = some (.tup cs) ∧ (∀ zs, Vals cs zs → zs = us) ∧ DOk d H ∧ PySem.W.kitAny K (.ref D) us = some b ∧ Q (.bl b) H
theorem call_isEN {D : Addr} (hP : HotP X a oe (.ref D) d) (C : ExcD X.K D) : CallR X (.builtin "isinstance") (rIsEN X.K D a d) := by
  intro pins s σ H xs us Q I r h
  obtain ⟨tp, cs, cv, b, rfl, htp, hcv, hd, e, q⟩ := h
  cases r with
  | cons rx rr =>
    cases rr with
    | cons rt rr =>
      cases rr
      cases rx
      cases rt
      obtain ⟨od, J⟩ := inst_at hP I hd
      obtain ⟨_, its, rv, oT, hT, hcT, nT, hdT⟩ := I.hok tp _ htp
      have ec := hcv _ rv
      subst ec
      obtain ⟨c1, c2, c3, c4⟩ := oT
      cases hcT
      cases hdT
      exact PySem.W.kia_tup (PySem.W.kitx_exc C.cl C.hg C.hk C.hs C.ha C.hn C.ht C.hm) I.kIn J hT e (fun z => nomatch z) fun tk => ⟨.bl b, H, I.kept (t' := tk) fun _ _ z => z, rfl, q⟩
/-- e.f, e the exception -/
def tByE (a : Addr) (d : Option Addr) (f : Str) (te : TE) : TE := fun σ H Q => te σ H fun x H1 => x = .ref a ∧ ∃ (dd : Addr) (v : V), d = some dd ∧ H1 dd = some (.xd [(f, v)]) ∧ Q v H1
theorem pe_byE {D : Addr} {g : Str} {te : TE} (hP : HotP X a oe (.ref D) d) (C : ExcD X.K D) (hno : PySem.W.findIn X.K (.ref D) g = some none) (he : PE X e te) (hb : attributeBase e g X.env (eval e X.env) = eval e X.env := by rfl) : PE X (.Attribute e g pos) (tByE a d g te) := by
  refine ⟨fun pins s σ H Q I h => ?_⟩
  refine attr_of hb (thn (he.run pins s σ H _ I h) fun u s1 hh => ?_)
  obtain ⟨x, H1, I1, rx, ex, dd, v, ed, ea, q⟩ := hh
  subst ex
  obtain rfl : u = Value.ref a := rx
  subst ed
  obtain ⟨hget, _⟩ := I1.pin (a, oe) (List.mem_append.mpr (.inl hP.mem))
  obtain ⟨vs, hv⟩ := hP.f
  obtain ⟨h1, h2, _⟩ := hP.z
  have hx : ObjOk X.prog X.w H1 s1.heap dd (.xd [(g, v)]) := I1.hok dd _ ea
  obtain ⟨mA, hns, hr⟩ := hx
  obtain ⟨od, ho, hl⟩ := lookIn_ns hns
  have l : List.lookup g [(g, v)] = some v := by simp [List.lookup]
  obtain ⟨u, hu, ru⟩ := RelO.some_of (v := v) (o := mA g) (by rw [← l]; exact hr g)
  have J : PySem.W.InstAt s1.heap a oe D (some od) := ⟨hget, h1, by unfold PySem.W.notCls; rw [hv], by rw [h2]; exact ho⟩
  exact HandSPX.exc_get I1.kIn J C.hg C.hk C.hs (PySem.W.findObj_own C.hd hno rfl (by rw [hl, hu])) (handed_of ru) ⟨v, H1, I1.tok _, ru, q⟩
end
/-! ### a walk over a list there -/
theorem turn_listH {P : Program} {w : World} {K : PySem.W.Frag} {tg : Expr} (a it : Addr) : TurnH P w K tg (Itl K a) [it] it (fun i h => h.IsListIter it a i) where
  mem := by simp
  obj := fun i h st b hb => by
    have e : b = it := by simpa using hb
    subst e
    obtain ⟨o, e, c, d⟩ := st
    exact ⟨o, e, fun v z => by rw [d] at z; cases z⟩
  keep := fun i h h' st k => st.at fun o e => k it (by simp) o e
  item := by
    intro X hP hw hK hc i pins s σ H E I hf st hg
    subst hP hw hK
    obtain ⟨xs, x, hq, hx⟩ := hg
    obtain ⟨its, rv, p, hz⟩ := I.list hq
    obtain ⟨u, hu, ru⟩ := rv.get hx
    obtain ⟨f0, f1, f2, f3, f4, f5⟩ := hf it (by simp)
    refine wpAny_pyNext_list_item st p.isList (x := u) (by simpa using hu) fun h' st' sb => ?_
    have I1 : Inv X pins σ H { s with heap := h' } := I.turned (t' := s.toks) (fun b o hb e => (sb.2 b hb).trans e) f0 f1 f3 f4 f5
    obtain ⟨o, e, c, d⟩ := id st'
    exact ⟨u, rfl, go_of (s := { s with heap := h' }) e c d (by decide) ⟨x, H, I1, ru, ⟨rfl, fun ys hy => by rw [I.list_inj hy hq]; exact hx⟩, st', fun b hb => (hf b hb).1⟩⟩
  done := by
    intro X hP hw hK hc i pins s σ H E I hf st hg
    subst hP hw hK
    obtain ⟨xs, hq, hx⟩ := hg
    obtain ⟨its, rv, p, hz⟩ := I.list hq
    obtain ⟨f0, f1, f2, f3, f4, f5⟩ := hf it (by simp)
    have hl := rv.length
    obtain ⟨p1, hot, hp⟩ := id hc
    obtain ⟨hh, v1, e1, c1⟩ := hot
    exact WH.list_end_hot ⟨hh, p1.2, v1, (I.pin p1 (List.mem_append_left _ hp)).1, e1, c1⟩ (f5 p1 (List.mem_append_left _ hp)) st p.isList (by simp; omega) fun h' eb => ⟨rfl, I.turned (t' := s.toks) (fun b o hb e => eb b o hb e) f0 f1 f3 f4 f5⟩
  self := fun _ _ _ _ _ st h => wpAny_pyIter_listiter st h
section
variable {X : Cx} {tg : Expr}
theorem pi_listH {l : Expr} {tl : TE} (hl : PE X l tl) : PIH X tg l (iList X.K tl) := by
  refine ⟨fun pins s σ H R I h => ?_⟩
  refine thn (hl.run pins s σ H _ I h) fun v s1 ⟨x, H1, I1, r1, q1⟩ => ?_
  obtain ⟨a, e, ⟨xs, hq⟩, q⟩ := q1
  subst e
  cases r1
  obtain ⟨its, rv, p, hz⟩ := I1.list hq
  refine wpAny_pyIter_list p.isList ?_
  refine ⟨s1.heap.objs.size, [s1.heap.objs.size], _, _, H1, rfl, I1.kept (t' := s1.toks) fun b o e => Heap.get?_push_of_some _ e, turn_listH a _, ⟨_, Heap.get?_push_size _ rfl, rfl, rfl⟩, fun b hb => ?_, q⟩
  have e : b = s1.heap.objs.size := by simpa using hb
  subst e
  exact I1.fpOk (Nat.le_refl _) (I1.hok.fresh (Nat.le_refl _))
/-- (a, b, ..) = a tuple of that length -/
theorem pg_tupH {es : List Expr} {k : Nat} {t : TGs} {n : Nat} {pos : Pos} (hc : HotC X) (h : PGs X es t)
    (hn : (assignEach es X.env).length = n := by rfl) (hst : (assignEach es X.env).findIdx? (·.1) = none := by rfl) : PG X (.Tuple es k pos) (gTup X.K n t) := by
  refine ⟨fun pins s σ H v u Q I r hw => ?_⟩
  obtain ⟨a, xs, e1, hq, hl, hw⟩ := hw
  subst e1
  cases r
  obtain ⟨its, rv, ht, hz⟩ := I.tuple hq
  obtain ⟨x1, hot⟩ := hc.at I
  rw [assign_Tuple]
  refine wpAny_bind (wpAny_standAt (WH.unpack_hot hot ht (by simp [hn, ← hl, rv.length]) hst fun h' hx => ?_))
  have I1 : Inv X pins σ H { s with heap := h' } := I.kept (t' := s.toks) fun b o e => hx b o (Nat.ne_of_lt (Heap.lt_size e)) e
  exact h.run pins _ σ H xs _ Q I1 (by simpa using rv) hw
abbrev CxBlkH (X : Cx) (s : Shared) (H : Hp) (scope : Scope) (cenv : Env) (fp : List Addr) : Cx := { X with s_0 := s, H_0 := H, env := cenv, outer := X.stack, ex := fp, fn := fun x => scope.names.lookup x == some .cell, pn := X.pn, xe := fun _ _ => False }
theorem toBlkH {s s' : Shared} {H H' : Hp} {scope : Scope} {cenv : Env} {fp : List Addr} {σ : L2.St} (I : Inv (X.blk s H scope cenv fp) [] σ H' s')
    (hp : ∀ p ∈ X.pn, s'.heap.get? p.1 = some p.2 ∧ H' p.1 = none ∧ p.1 ≠ cenv.locals ∧ p.1 ∉ frs X.stack ∧ ∀ v, p.2.data ≠ .cell v) : Inv (CxBlkH X s H scope cenv fp) [] σ H' s' :=
  ⟨⟨I.ok.mod, I.ok.kind, I.ok.glob, I.ok.blt, I.ok.above, I.ok.inj, I.ok.has, I.ok.cab, I.ok.hd, I.ok.frames, I.ok.stk, I.ok.exf, I.ok.bs, I.ok.bsz, I.ok.noex, I.ok.exfs, I.ok.funs, I.ok.frf⟩,
    I.os, I.bare, I.base, I.loc, I.cell, I.free, I.freeC, fun p hp' => hp p (by simpa using hp'), I.hok, I.len⟩
/-- [elt for target in iter if ..] there -/
theorem pe_lcH {elt iter : Expr} {ifs : List Expr} {scope : Scope} {own : List (Str × Nat)} {pos : Pos} {wi : TI} {g : TG} {tt : TT} {te : TE} (hc : HotC X) (hN : X.N.Nodup) (hi : PIH X tg iter wi) (ok : BlkOk X.N X.env.scope scope own)
    (hg : ∀ (s : Shared) (H : Hp) (C : Addr) (cl : List (Str × Addr)) (fp : List Addr), PG (CxBlkH X s H scope (compEnvC scope cl C X.env) fp) tg g) (ht : ∀ (s : Shared) (H : Hp) (C : Addr) (cl : List (Str × Addr)) (fp : List Addr), PTs (CxBlkH X s H scope (compEnvC scope cl C X.env) fp) ifs tt)
    (he : ∀ (s : Shared) (H : Hp) (C : Addr) (cl : List (Str × Addr)) (fp : List Addr), PE (CxBlkH X s H scope (compEnvC scope cl C X.env) fp) elt te) (hs : ∀ x, foldedSetIterable iter X.env x = pure x := by intro _; rfl) :
    PE X (.ListComp elt [⟨tg, iter, ifs, 0⟩] scope pos) (tLc wi g tt te (own.map (·.2))) := by
  refine ⟨fun pins s σ H Q I h => ?_⟩
  rw [eval_ListComp]
  have hfree : ∀ y ∈ scope.names, y.2 = .free → ∃ c, X.env.cells.lookup y.1 = some c := fun y hy e => by
    rcases ok.free y hy e with k | k
    · exact I.ok.has _ (.inl k)
    · exact I.ok.has _ (.inr k)
  refine wpAny_comprehension_free (use := none) rfl hs (closure_ok hfree) ok.kind (fun y hy e => by rw [ok.uniq y hy, e])
    (thn (hi.run pins s σ H _ I h) fun xv s1 hx => thn hx fun itv s2 h2 => ?_)
  obtain ⟨it, fp, tn, J, H2, e, I2, T, st2, f2, q⟩ := h2
  subst e
  refine wpAny_newObj_type (newEnv_comp ?_) (by show 0 ≤ sizeLine; decide)
  generalize hD : s2.heap.objs.size = D
  have hDn : H2 D = none := I2.hok.fresh (Nat.le_of_eq hD)
  obtain ⟨W, ⟨m0, w0⟩, turn⟩ := q D hDn
  generalize hs3 : ({ s2 with heap := s2.heap.push { cls := .type "list", data := .seq ([] : List Value).toArray } } : Shared) = s3
  have I3 : Inv X pins σ (upd H2 D (.lst [])) s3 := by
    rw [← hs3]
    refine I2.laid (t' := s2.toks) (fun b o e => Heap.get?_push_of_some _ e) (Nat.le_of_eq hD) ⟨Nat.zero_le _, [], 0, .nil, ?_⟩
    rw [← hD]
    exact Heap.get?_push_size _ rfl
  have h3 : s3.heap = s2.heap.push { cls := .type "list", data := .seq ([] : List Value).toArray } := by rw [← hs3]
  have sz : ∀ b ∈ fp, b < s2.heap.objs.size := fun b hb => by
    obtain ⟨o, e, _⟩ := T.obj _ _ st2 b hb
    exact Heap.lt_size e
  have f3 : ∀ b ∈ fp, FpOk X pins (upd H2 D (.lst [])) b ∧ b < s3.heap.objs.size := fun b hb => by
    have hlt := sz b hb
    refine ⟨⟨?_, (f2 b hb).2⟩, by rw [h3, Heap.size_push]; exact Nat.lt_succ_of_lt hlt⟩
    rw [upd_ne (by rw [← hD]; exact Nat.ne_of_lt hlt)]
    exact (f2 b hb).1
  have st3 : tn 0 s3.heap := T.keep _ _ _ st2 fun b _ o e => by rw [h3]; exact Heap.get?_push_of_some _ e
  have I4b := block_start I3 ok hN f3
  have P4 : ∀ p ∈ X.pn, s3.heap.get? p.1 = some p.2 ∧ (upd H2 D (.lst [])) p.1 = none ∧ p.1 ≠ X.env.locals ∧ p.1 ∉ X.fs ∧ ∀ v, p.2.data ≠ .cell v := fun p hp => I3.pin p (List.mem_append_left _ hp)
  have I4 := toBlkH (X := X) I4b fun p hp => by
    obtain ⟨a1, a2, a3, a4, a5⟩ := P4 p hp
    exact ⟨pushCells_keeps _ _ _ _ (Heap.get?_push_of_some _ a1), a2, Nat.ne_of_lt (Heap.lt_size a1), fun hm => (List.mem_cons.mp (I3.stkSub _ hm)).elim a3 a4, a5⟩
  have pg := hg s3 (upd H2 D (.lst [])) s3.heap.objs.size (cellsFrom (s3.heap.objs.size + 1) scope.names (cloFrom X.env.cells scope.names [])) fp
  have pt := ht s3 (upd H2 D (.lst [])) s3.heap.objs.size (cellsFrom (s3.heap.objs.size + 1) scope.names (cloFrom X.env.cells scope.names [])) fp
  have pe := he s3 (upd H2 D (.lst [])) s3.heap.objs.size (cellsFrom (s3.heap.objs.size + 1) scope.names (cloFrom X.env.cells scope.names [])) fp
  show codeAny _ _ (.compStart (.ListComp elt [⟨tg, iter, ifs, 0⟩] scope pos) 0 (.ref it) (.ref D) (compEnvC scope (cellsFrom (s3.heap.objs.size + 1) scope.names (cloFrom X.env.cells scope.names [])) s3.heap.objs.size X.env)) (compPost (model X.prog X.w) X.A X.xe none _ (.ref D) s3.heap.objs.size) { s3 with heap := pushCells (s3.heap.push { cls := .type "dict", data := .dict #[] }) scope.names }
  have nfp : ∀ b ∈ fp, (upd H2 D (.lst [])) b = none := fun b hb => (f3 b hb).1.1
  generalize hce : compEnvC scope (cellsFrom (s3.heap.objs.size + 1) scope.names (cloFrom X.env.cells scope.names [])) s3.heap.objs.size X.env = ce at I4 pg pt pe ⊢
  have cL : ce.locals = s3.heap.objs.size := by subst hce; rfl
  generalize hH3 : upd H2 D (.lst []) = H3 at I3 I4 pg pt pe w0 nfp f3
  generalize hs4 : ({ s3 with heap := pushCells (s3.heap.push { cls := .type "dict", data := .dict #[] }) scope.names } : Shared) = s4 at I4 ⊢
  have st4 : tn 0 s4.heap := T.keep _ _ _ st3 fun b _ o e => by rw [← hs4]; exact pushCells_keeps _ _ _ _ (Heap.get?_push_of_some _ e)
  have hcB : HotC (CxBlkH X s3 H3 scope ce fp) := hc
  have stat : ∀ {σ' : L2.St} {H' : Hp} {s' : Shared}, Inv (CxBlkH X s3 H3 scope ce fp) [] σ' H' s' → (∀ b ∈ fp, H' b = none) → ∀ b ∈ fp, FpOk (CxBlkH X s3 H3 scope ce fp) [] H' b := fun {σ' H' s'} I' hn b hb =>
    ⟨hn b hb, (I'.ok.exf b hb).1, I'.ok.exfs b hb, .inl hb, fun x c e => (I'.ok.exf b hb).2 x c e, fun p hp => (f3 b hb).1.2.2.2.2.2 p (List.mem_append_left _ (by simpa using hp))⟩
  have loop : codeAny (model X.prog X.w) X.A (.compLoop (.ListComp elt [⟨tg, iter, ifs, 0⟩] scope pos) 0 (.ref it) (.ref D) ce) (compPost (model X.prog X.w) X.A X.xe none (EP X pins σ Q) (.ref D) s3.heap.objs.size) s4 := by
    refine compLoop_any (fun n s' => ∃ i H', Inv (CxBlkH X s3 H3 scope ce fp) [] (wipe σ (own.map (·.2))) H' s' ∧ tn i s'.heap ∧ (∀ b ∈ fp, H' b = none) ∧ W i n H') ?_ m0 ⟨0, H3, I4, st4, nfp, w0⟩
    rintro n s5 ⟨i, H5, I5, st5, n5, w5⟩
    rcases turn i n H5 w5 with ⟨stop, qq⟩ | ⟨go, Nx, hNx, step⟩
    · have td := T.done (CxBlkH X s3 H3 scope ce fp) rfl rfl rfl hcB i [] s5 _ H5 (fun _ _ => False) I5 (stat I5 n5) st5 stop
      refine thnF td fun r s6 ⟨hr, I6⟩ => ?_
      subst hr
      have I7 : Inv X pins σ H5 s6 := I3.call' (ch := fp) I6.os I6.base I6.hok I6.bare fun b hb => ⟨(f3 b hb).1.2.2.2.1, (f3 b hb).1.2.1, (f3 b hb).1.2.2.2.2.1, (f3 b hb).1.2.2.2.2.2⟩
      have nC : H5 s3.heap.objs.size = none := by
        have z : H5 ce.locals = none := I6.free
        rw [cL] at z
        exact z
      obtain ⟨m, hn, _⟩ := I6.loc
      have hn : s6.heap.Ns ce.locals m := hn
      rw [cL] at hn
      obtain ⟨f0, f1, f2, f3, f4, f5⟩ := I3.fpOk (Nat.le_refl _) nC
      exact ⟨m, hn, fun h'' sb => ⟨.ref D, H5, I7.turned (t' := s6.toks) (fun b o hb e => (sb.2 b hb).trans e) f0 f1 f3 f4 f5, rfl, qq⟩⟩
    · have ti := T.item (CxBlkH X s3 H3 scope ce fp) rfl rfl rfl hcB i [] s5 _ H5 (fun _ _ => False) I5 (stat I5 n5) st5 go
      refine thnF ti fun r s6 ⟨u, hr, h6⟩ => ?_
      subst hr
      refine thnF h6 fun _ s7 ⟨x, H7, I7, r7, y7, st7, n7⟩ => ?_
      have I7' := I7.pinned (stat I7 n7) (T.obj _ _ st7)
      refine thnF (pg.run _ s7 _ H7 x u _ I7' r7 (step x H7 y7)) fun _ s8 ⟨σ8, H8, I8, hw8, q8⟩ => ?_
      refine thnF (pt.run _ s8 σ8 H8 _ I8 q8) fun b s9 ⟨H9, I9, q9⟩ => ?_
      have fin : ∀ {s' : Shared} {H' : Hp}, Inv (CxBlkH X s3 H3 scope ce fp) ([] ++ pinsAt fp s7.heap) σ8 H' s' → Nx H' → ∃ m, m < n ∧ ∃ i H', Inv (CxBlkH X s3 H3 scope ce fp) [] (wipe σ (own.map (·.2))) H' s' ∧ tn i s'.heap ∧ (∀ b ∈ fp, H' b = none) ∧ W i m H' := fun {s' H'} I' nx => by
        obtain ⟨m', hm, w'⟩ := hNx H' nx
        have pin' : ∀ b ∈ fp, ∀ o, s7.heap.get? b = some o → s'.heap.get? b = some o ∧ H' b = none := fun b hb o e =>
          let z := I'.pin (b, o) (List.mem_append_right _ (List.mem_append_right _ (mem_pinsAt hb e)))
          ⟨z.1, z.2.1⟩
        have hl : (wipe σ (own.map (·.2))).length = σ8.length := by rw [← hw8, wipe_length]
        refine ⟨m', hm, i + 1, H', (I'.unpinned (pins := [])).weak hl (fun j v e => ?_), T.keep _ _ _ st7 fun b hb o e => (pin' b hb o e).1, fun b hb => ?_, w'⟩
        · rw [← hw8] at e
          exact (wipe_some e).1
        · obtain ⟨o, e, _⟩ := T.obj _ _ st7 b hb
          exact (pin' b hb o e).2
      cases b with
      | false =>
        simp only [Bool.false_eq_true, if_false] at q9 ⊢
        exact fin I9 q9
      | true =>
        simp only [if_true] at q9 ⊢
        refine thnF (pe.run _ s9 σ8 H9 _ I9 q9) fun z s10 ⟨yv, H10, I10, r10, acc, hD10, hz10, nx⟩ => ?_
        exact app_ok (X := CxBlkH X s3 H3 scope ce fp) I10 hD10 hz10 r10 fun s11 I11 => fin I11 nx
  exact codeAny_compStart_list loop (T.self X.A 0 _ _ _ st4 loop)
end
end W1
end
section
/-! tuples: sum, max; enumerate; zip of a tuple and a list; the reversed one -/
namespace WT
open PySem PySem.Spec PySem.W PyProof.Rows L2
section
variable {prog : Program} {w : World} {A : Around} {E : Value → Shared → Prop} {s : Shared} {l : Addr} {its : List Value} {ns : List Int} {Q : Value → Shared → Prop}
theorem iter_tupI {items : Array Value} {Q : Value → Shared → Prop} (hl : s.heap.IsTuple l items)
    (h : ∀ s₂ : Shared, s₂ = { s with heap := s.heap.push { cls := .type "tuple_iterator", data := .fields #[.ref l, .int 0 0] } } →
      (s₂.heap.IsTupleIter s.heap.objs.size l 0 ∧ s₂.heap.IsTuple l items) → (∀ b ∈ [s.heap.objs.size, l], b < s₂.heap.objs.size) → l ≠ s.heap.objs.size → (∀ h' : Heap, (∀ b o, b ∉ [s.heap.objs.size] → s₂.heap.get? b = some o → h'.get? b = some o) → ∀ b o, s.heap.get? b = some o → h'.get? b = some o) → Q (.ref s.heap.objs.size) s₂) :
    wpAny (model prog w) A (pyIter (.ref l)) Q E s := by
  have hlt : l < s.heap.objs.size := by obtain ⟨_, e, _⟩ := hl; exact Heap.lt_size e
  refine wpAny_pyIter_tuple hl (h _ rfl ⟨⟨_, Heap.get?_push_size _ rfl, rfl, rfl⟩, hl.at fun o e => Heap.get?_push_of_some _ e⟩ (fun b hb => ?_) (Nat.ne_of_lt hlt) fun h' k b o e => ?_)
  · show b < (s.heap.push _).objs.size
    rw [Heap.size_push]
    have z : b = s.heap.objs.size ∨ b = l := by simpa using hb
    rcases z with z | z
    · subst z; exact Nat.lt_succ_self _
    · subst z; exact Nat.lt_succ_of_lt hlt
  · refine k b o (fun hm => ?_) (Heap.get?_push_of_some _ e)
    have z : b = s.heap.objs.size := by simpa using hm
    exact absurd (z ▸ Heap.lt_size e) (Nat.lt_irrefl _)
theorem sum_rawT (hh : A.handled = none) (hl : s.heap.IsTuple l its.toArray) (hi : IntsAre its ns)
    (h : ∀ h' tk t', (∀ b o, s.heap.get? b = some o → h'.get? b = some o) → Q (.int ns.sum t') { s with heap := h', toks := tk }) : wpAny (model prog w) A (call (.builtin "sum") [.ref l]) Q E s := by
  obtain ⟨xs, e⟩ := hi.allInts.items
  have hn : numsOf (intItems xs).toList = ns := by rw [← e]; exact hi.numsOf
  rw [nums_intItems] at hn
  rw [e] at hl
  refine call_sum_walkG (iter_tupI hl fun s₂ e st hfp hlI old => ?_)
  subst e
  refine ⟨_, _, _, _, _, _, numAt xs, rfl, Walks.tuple (A := A.in1) hh _ l hlI (intItems xs), st, hfp, (fun _ _ => intItems_at), fun h' tk t' hk => ?_⟩
  have z := h h' tk t' (old h' hk)
  rw [show (intItems xs).size = xs.size by simp [intItems], preSum_eq, List.take_of_length_le (by simp), hn]
  exact z
theorem max_rawT (hh : A.handled = none) (hl : s.heap.IsTuple l its.toArray) (hi : IntsAre its ns) (hne : 0 < ns.length)
    (h : ∀ h' tk M t', (∀ b o, s.heap.get? b = some o → h'.get? b = some o) → M ∈ ns → (∀ a, a ∈ ns → a ≤ M) → Q (.int M t') { s with heap := h', toks := tk }) : wpAny (model prog w) A (call (.builtin "max") [.ref l]) Q E s := by
  obtain ⟨xs, e⟩ := hi.allInts.items
  have hn : numsOf (intItems xs).toList = ns := by rw [← e]; exact hi.numsOf
  rw [nums_intItems] at hn
  subst hn
  rw [e] at hl
  have hsz : 0 < xs.size := by simpa using hne
  refine call_max_walk (iter_tupI hl fun s₂ e st hfp hlI old => ?_)
  subst e
  refine ⟨_, _, _, _, _, _, _, rfl, Walks.tuple (A := A.in1) hh _ l hlI (intItems xs), st, hfp, by simpa [intItems] using hsz, CmpOf.ints_gt (numAt xs) (fun _ _ => intItems_at), fun v h' tk hP hk => ?_⟩
  have hv : (intItems xs)[argBest (fun i j => decide (numAt xs i > numAt xs j)) (xs.size - 1)]? = some v := by simpa [intItems] using hP
  obtain ⟨t, rfl⟩ := intItems_at hv
  obtain ⟨h1, h2⟩ := argBest_gt (numAt xs) (xs.size - 1)
  refine h h' tk _ t (old h' hk) ?_ fun a ha => ?_
  · rw [numAt_eq]; exact PySem.getD_mem (by rw [List.length_map, Array.length_toList]; omega)
  · obtain ⟨j, hj, rfl⟩ := mem_getD ha
    rw [List.length_map, Array.length_toList] at hj
    rw [← numAt_eq]; exact h2 j (by omega)
end
set_option maxHeartbeats 1000000 in
theorem meets_enumT {v : Value} {o : Obj} {H : Heap → Prop} (B : Begins v o H) :
    Meets (Builtin.«enumerate.__new__» ⟨[.type "enumerate", v], []⟩) (fun _ R s => H s.heap ∧
      R (.ok (.ret (.ref (s.heap.push o).objs.size))) { s with heap := (s.heap.push o).push { cls := .type "enumerate", data := .fields #[.none, .bool false, .ref s.heap.objs.size, rawInt 0, .none, .none] } }) :=
  .of_wp fun prog w A R s h => by
    obtain ⟨hp, g, d, tk, os⟩ := s; obtain ⟨h1, h⟩ := h
    have hsub := sub_enumerate
    have q1 : ∀ {A' : Around} {E : Value → Shared → Prop} {Q : Value → Shared → Prop}, Q (.ref hp.objs.size) ⟨hp.push o, g, d, tk, os⟩ → wpAny (model prog w) A' (pyIter v) Q E ⟨hp, g, d, tk, os⟩ :=
      fun q => B.iter prog w _ _ ⟨hp, g, d, tk, os⟩ _ h1 q
    wp_walk using q1
    refine wpAny_stack_any fun st => wpAny_pure ?_
    split
    · rename_i c _ _ _ _ _
      cases (c == Value.type "enumerate")
      · wp_walk using q1
        exact ⟨_, rfl, h⟩
      · wp_walk using q1
        exact ⟨_, rfl, h⟩
    · wp_walk using q1
      exact ⟨_, rfl, h⟩
section
variable {prog : Program} {w : World} {A : Around} {E : Value → Shared → Prop} {s : Shared} {l : Addr} {items : Array Value} {Q : Value → Shared → Prop}
theorem call_enum_tup (hL : s.heap.IsTuple l items)
    (h : ∀ h', IsEnum h' (s.heap.objs.size + 1) s.heap.objs.size 0 .none → h'.IsTupleIter s.heap.objs.size l 0 → h'.objs.size = s.heap.objs.size + 2 →
      (∀ b o, s.heap.get? b = some o → h'.get? b = some o) → Q (.ref (s.heap.objs.size + 1)) { s with heap := h' }) :
    wpAny (model prog w) A (call (.type "enumerate") [.ref l]) Q E s := by
  refine callType_new F.called_enumerate (by decide) (F.typeCall_enumerate_1 _) (F.newCall_enumerate_1 _) (fun obj => F.args_object_init_2 obj _) F.entry_enumerate_new
    (meets_enumT (begins_tuple l items)) ⟨hL, ?_⟩
  have hz : (s.heap.push { cls := .type "tuple_iterator", data := .fields #[.ref l, .int 0 0] }).objs.size = s.heap.objs.size + 1 := Heap.size_push ..
  show _ ∧ _
  rw [hz]
  have he : IsEnum ((s.heap.push { cls := .type "tuple_iterator", data := .fields #[.ref l, .int 0 0] }).push
      { cls := .type "enumerate", data := .fields #[.none, .bool false, .ref s.heap.objs.size, rawInt 0, .none, .none] }) (s.heap.objs.size + 1) s.heap.objs.size 0 .none := by
    have := Heap.get?_push_size (s.heap.push { cls := .type "tuple_iterator", data := .fields #[.ref l, .int 0 0] })
      (o := { cls := .type "enumerate", data := .fields #[.none, .bool false, .ref s.heap.objs.size, rawInt 0, .none, .none] }) rfl
    rw [hz] at this; exact this
  refine ⟨⟨_, he, rfl⟩, h _ he ⟨_, Heap.get?_push_of_some _ (Heap.get?_push_size _ rfl), rfl, rfl⟩ (by rw [Heap.size_push, hz]) fun b o x => Heap.get?_push_of_some _ (Heap.get?_push_of_some _ x)⟩
end
end WT
namespace W1
open PySem PySem.Spec PyProof.Rows L2
section
variable {X : Cx}
def rSumT (K : PySem.W.Frag) : List V → Hp → VK → Prop := fun vs H Q => ∃ (a : Addr) (ns : List Int), vs = [V.ref a] ∧ SqT K H a (ns.map V.int) ∧ Q (.int ns.sum) H
def rMaxT (K : PySem.W.Frag) : List V → Hp → VK → Prop := fun vs H Q => ∃ (a : Addr) (ns : List Int), vs = [V.ref a] ∧ SqT K H a (ns.map V.int) ∧ 0 < ns.length ∧ ∀ m, m ∈ ns → (∀ y, y ∈ ns → y ≤ m) → Q (.int m) H
theorem cr_sumT (hc : X.calm = true) : CallR X (.builtin "sum") (rSumT X.K) := by
  intro pins s σ H vs us Q I r h
  obtain ⟨a, ns, rfl, hs, q⟩ := h
  obtain ⟨its, rv, hl, _⟩ := I.tuple hs
  rw [Vals.ref1 r]
  exact _root_.WT.sum_rawT (I.ok.hd hc) (show s.heap.IsTuple a its.toArray from hl) rv.ints fun h' tk t' hk => ⟨.int _, H, I.kept hk, ⟨_, rfl⟩, q⟩
theorem cr_maxT (hc : X.calm = true) : CallR X (.builtin "max") (rMaxT X.K) := by
  intro pins s σ H vs us Q I r h
  obtain ⟨a, ns, rfl, hs, hne, q⟩ := h
  obtain ⟨its, rv, hl, _⟩ := I.tuple hs
  rw [Vals.ref1 r]
  exact _root_.WT.max_rawT (I.ok.hd hc) (show s.heap.IsTuple a its.toArray from hl) rv.ints hne fun h' tk m t' hk h1 h2 => ⟨.int _, H, I.kept hk, ⟨_, rfl⟩, q m h1 h2⟩
end
/-! ### enumerate(tuple) -/
def IteT (K : PySem.W.Frag) (a : Addr) : It :=
  ⟨fun i H => ∃ (xs : List V) (x : V), SqT K H a xs ∧ xs[i]? = some x, fun i H v H' => ∃ T x, v = .ref T ∧ H T = none ∧ H' = upd H T (.tup [.int (i : Nat), x]) ∧ ∀ xs, SqT K H a xs → xs[i]? = some x, fun i H => ∃ xs : List V, SqT K H a xs ∧ xs.length = i⟩
theorem turn_enumT {P : Program} {w : World} {K : PySem.W.Frag} {elts : List Expr} {kk : Nat} {tpos : Pos} (a e it : Addr) :
    Turn P w K (.Tuple elts kk tpos) (IteT K a) [e, it] e (fun i h => (∃ old, IsEnum h e it ((i : Nat) : Int) old) ∧ h.IsTupleIter it a i ∧ e ≠ it ∧ a ≠ it ∧ a ≠ e) where
  mem := by simp
  obj := fun i h st b hb => by
    obtain ⟨⟨old, he⟩, ⟨o, ho, hc, hd⟩, _⟩ := st
    have e' : b = e ∨ b = it := by simpa using hb
    rcases e' with z | z
    · rw [z]; exact ⟨_, he, fun v q => nomatch q⟩
    · rw [z]; exact ⟨o, ho, fun v q => by rw [hd] at q; cases q⟩
  keep := fun i h h' st k => let ⟨⟨old, he⟩, hi, hne⟩ := st; ⟨⟨old, k e (by simp) _ he⟩, hi.at fun o q => k it (by simp) o q, hne⟩
  item := by
    intro X hP hw hK hc i pins s σ H E I hf st hg
    subst hP hw hK
    obtain ⟨⟨old, he⟩, hit, hne, hai, hae⟩ := st
    obtain ⟨xs, x, hq, hx⟩ := hg
    obtain ⟨its, rv, p, hz⟩ := I.tuple hq
    obtain ⟨u, hu, ru⟩ := rv.get hx
    have hel : e < s.heap.objs.size := Heap.lt_size he
    have hil : it < s.heap.objs.size := by obtain ⟨_, q, _⟩ := hit; exact Heap.lt_size q
    have hlt : i < its.toArray.size := by
      have z := (List.getElem?_eq_some_iff.mp hu).1
      simpa using z
    refine wpAny_pyNext_enum_itemD (Draws.tuple (A := X.A.in1) (I.ok.hd hc) it a hai its.toArray) he ⟨hit, (show s.heap.IsTuple a its.toArray from p)⟩ hlt hne (by simp only [List.mem_cons, List.not_mem_nil, or_false, not_or]; exact ⟨hne, Ne.symm hae⟩) fun x' h' tk hPx ho hst' hT hsz hk => ?_
    have ex : x' = u := by
      have z : its.toArray[i]? = some x' := hPx
      have z2 : its.toArray[i]? = some u := by simpa using hu
      exact Option.some.inj (z.symm.trans z2)
    subst ex
    obtain ⟨hit', _⟩ := hst'
    refine ⟨_, rfl, wpAny_letOwnedTupleGo_enum (s := { s with heap := h', toks := tk + 1 }) ho fun h'' he' sb => ?_⟩
    have hT2 : h''.get? s.heap.objs.size = some { cls := .type "tuple", data := .seq #[.int i tk, x'] } := (sb.2 _ (Nat.ne_of_gt hel)).trans hT
    have new : ObjOk X.prog X.w (upd H s.heap.objs.size (.tup [.int (i : Nat), x])) h'' s.heap.objs.size (.tup [.int (i : Nat), x]) :=
      ⟨by show 2 ≤ sizeLine; decide, [.int i tk, x'], .cons ⟨_, rfl⟩ (.cons ru .nil), ⟨_, hT2, rfl, _, rfl⟩⟩
    have I1 : Inv X pins σ (upd H s.heap.objs.size (.tup [.int (i : Nat), x])) { s with heap := h'', toks := tk + 1 } :=
      I.turnedNew (ch := [e, it]) (fun b ob hb q => (sb.2 b (fun z => hb (by simp [z]))).trans (hk b ob (fun z => hb (by simp [z])) (fun z => hb (by simp [z])) q)) hf (Nat.le_refl _) new
    refine ⟨.ref s.heap.objs.size, _, I1, rfl, ⟨_, x, rfl, I.hok.fresh (Nat.le_refl _), rfl, fun ys hy => by rw [I.tuple_inj hy hq]; exact hx⟩, ⟨⟨x', ?_⟩, hit'.at fun o q => (sb.2 it (Ne.symm hne)).trans q, hne, hai, hae⟩, fun b hb => ?_⟩
    · have e1 : ((i + 1 : Nat) : Int) = (i : Int) + 1 := by omega
      rw [e1]; exact he'
    · have hb' : b < s.heap.objs.size := by
        have e' : b = e ∨ b = it := by simpa using hb
        rcases e' with z | z
        · rw [z]; exact hel
        · rw [z]; exact hil
      rw [upd_ne (Nat.ne_of_lt hb')]
      exact (hf b hb).1
  done := by
    intro X hP hw hK hc i pins s σ H E I hf st hg
    subst hP hw hK
    obtain ⟨⟨old, he⟩, hit, hne, hai, hae⟩ := st
    obtain ⟨xs, hq, hx⟩ := hg
    obtain ⟨its, rv, p, hz⟩ := I.tuple hq
    obtain ⟨f0, f1, f2, f3, f4, f5⟩ := hf it (by simp)
    have hl := rv.length
    have ei : its.toArray.size = i := by simp; omega
    subst ei
    exact wpAny_pyNext_enum_endD (Draws.tuple (A := X.A.in1) (I.ok.hd hc) it a hai its.toArray) he ⟨hit, (show s.heap.IsTuple a its.toArray from p)⟩ fun h' eb => ⟨rfl, I.turned (t' := s.toks) (fun b o hb q => eb b o hb q) f0 f1 f3 f4 f5⟩
  self := fun A i s Q E st h => let ⟨⟨_, he⟩, _⟩ := st; wpAny_pyIter_enum he h
def iEnumT (K : PySem.W.Frag) (ta : TA) : TI := fun σ H R => ta σ H fun vs H1 => ∃ a xs, vs = [.ref a] ∧ SqT K H1 a xs ∧ R (IteT K a) H1
theorem pi_enumT {X : Cx} {e : Expr} {ta : TA} {p pos tpos : Pos} {elts : List Expr} {kk : Nat} (hg : Gl X "enumerate") (hm : X.mg "enumerate" = none) (ha : PA X [e] ta) (hs : starEach [e] X.env = [(false, eval e X.env)] := by rfl) :
    PI X (.Tuple elts kk tpos) (.Call (.Name "enumerate" p) [e] [] pos) (iEnumT X.K ta) := by
  refine ⟨fun pins s σ H R I h => ?_⟩
  refine Call_ (ld_blt I hg hm boot_enumerate (PyProof.Rows.callWith_type1 (thn (ha.run pos pins s σ H _ I h) fun us s1 ⟨vs, H1, I1, r1, q1⟩ => ?_) hs rfl))
  obtain ⟨a, xs, ex, hq, q⟩ := q1
  subst ex
  cases r1 with
  | cons r rr =>
    cases rr
    cases r
    obtain ⟨its, rv, p', hz⟩ := I1.tuple hq
    have hla : a < s1.heap.objs.size := p'.lt
    refine _root_.WT.call_enum_tup (show s1.heap.IsTuple a its.toArray from p') fun h' he hit hsz hk => wpAny_pyIter_enum he ?_
    have I2 : Inv X pins σ H1 { s1 with heap := h' } := I1.kept (t' := s1.toks) hk
    refine ⟨s1.heap.objs.size + 1, [s1.heap.objs.size + 1, s1.heap.objs.size], _, _, H1, rfl, I2, turn_enumT a (s1.heap.objs.size + 1) s1.heap.objs.size, ⟨⟨.none, he⟩, hit, Nat.succ_ne_self _, Nat.ne_of_lt hla, Nat.ne_of_lt (Nat.lt_succ_of_lt hla)⟩, fun b hb => ?_, q⟩
    have e' : b = s1.heap.objs.size + 1 ∨ b = s1.heap.objs.size := by simpa using hb
    have hle : s1.heap.objs.size ≤ b := by
      rcases e' with z | z
      · rw [z]; exact Nat.le_add_right _ _
      · rw [z]; exact Nat.le_refl _
    exact I1.fpOk hle (I1.hok.fresh hle)
/-- a loop over it: the pairs (i, x) -/
theorem for_enumT {K : PySem.W.Frag} {a : Addr} {xs : List V} {g : TG} {tb : TS} {D : Ends} {σ : L2.St} {H : Hp} (Pv : Nat → L2.St → Hp → Prop) (h0 : Pv 0 σ H) (hq : ∀ i σ H, Pv i σ H → SqT K H a xs)
    (hs : ∀ (i : Nat) (x : V) (T : Addr) (σ : L2.St) (H : Hp), xs[i]? = some x → Pv i σ H → H T = none → g (.ref T) σ (upd H T (.tup [.int (i : Nat), x])) fun σ2 H2 => tb { D with nx := Pv (i + 1), ct := Pv (i + 1), bk := D.nx } σ2 H2) (hd : ∀ σ H, Pv xs.length σ H → D.nx σ H) :
    ∃ W : Nat → Nat → L2.St → Hp → Prop, (∃ m, W 0 m σ H) ∧ ∀ i m σ H, W i m σ H →
      ((IteT K a).stop i H ∧ D.nx σ H) ∨ ((IteT K a).go i H ∧ ∃ N : L2.St → Hp → Prop, (∀ σ' H', N σ' H' → ∃ m', m' < m ∧ W (i + 1) m' σ' H') ∧ ∀ v H', (IteT K a).yld i H v H' → g v σ H' fun σ2 H2 => tb { D with nx := N, ct := N, bk := D.nx } σ2 H2) := by
  refine ⟨fun i m σ H => m = xs.length - i ∧ i ≤ xs.length ∧ Pv i σ H, ⟨xs.length, rfl, Nat.zero_le _, h0⟩, ?_⟩
  rintro i m σ H ⟨rfl, hi, p⟩
  have qx := hq i σ H p
  by_cases hlt : i < xs.length
  · have hx : xs[i]? = some xs[i] := List.getElem?_eq_getElem hlt
    refine .inr ⟨⟨xs, _, qx, hx⟩, Pv (i + 1), fun σ' H' p' => ⟨xs.length - (i + 1), by omega, rfl, hlt, p'⟩, fun v H' y => ?_⟩
    obtain ⟨T, x', rfl, hT, rfl, f1⟩ := y
    exact hs i x' T σ H (f1 xs qx) p hT
  · have e : i = xs.length := by omega
    subst e
    exact .inl ⟨⟨xs, qx, rfl⟩, hd σ H p⟩
/-! ### zip(tuple, list) -/
def ItzM (K : PySem.W.Frag) (a b : Addr) : It :=
  ⟨fun i H => ∃ (xs ys : List V) (x y : V), SqT K H a xs ∧ SqL K H b ys ∧ xs[i]? = some x ∧ ys[i]? = some y,
    fun i H v H' => ∃ T x y, v = .ref T ∧ H T = none ∧ H' = upd H T (.tup [x, y]) ∧ (∀ xs, SqT K H a xs → xs[i]? = some x) ∧ ∀ ys, SqL K H b ys → ys[i]? = some y,
    fun i H => ∃ xs ys : List V, SqT K H a xs ∧ SqL K H b ys ∧ xs.length = i ∧ ys.length = i⟩
theorem turn_zipM {P : Program} {w : World} {K : PySem.W.Frag} {elts : List Expr} {kk : Nat} {tpos : Pos} {a b z TI TO i1 i2 : Addr} (D : ZipSep2 z TI TO i1 i2 [i1, a] [i2, b]) :
    Turn P w K (.Tuple elts kk tpos) (ItzM K a b) [z, TI, TO, i1, i2] z (fun i h => IsZip h z TI TO .none ∧ IsTupOf2 h TI (.ref i1) (.ref i2) ∧ (∃ x y, IsTupOf2 h TO x y) ∧ h.IsTupleIter i1 a i ∧ h.IsListIter i2 b i) where
  mem := by simp
  obj := fun i h st c hc => by
    obtain ⟨hz, hTI, ⟨x, y, hTO⟩, ⟨o1, e1, _, d1⟩, ⟨o2, e2, _, d2⟩⟩ := st
    have e' : c = z ∨ c = TI ∨ c = TO ∨ c = i1 ∨ c = i2 := by simpa using hc
    rcases e' with q | q | q | q | q
    · rw [q]; exact ⟨_, hz, fun v q => nomatch q⟩
    · rw [q]; exact ⟨_, hTI, fun v q => nomatch q⟩
    · rw [q]; exact ⟨_, hTO, fun v q => nomatch q⟩
    · rw [q]; exact ⟨o1, e1, fun v q => by rw [d1] at q; cases q⟩
    · rw [q]; exact ⟨o2, e2, fun v q => by rw [d2] at q; cases q⟩
  keep := fun i h h' st k => by
    obtain ⟨hz, hTI, ⟨x, y, hTO⟩, h1, h2⟩ := st
    exact ⟨k z (by simp) _ hz, k TI (by simp) _ hTI, ⟨x, y, k TO (by simp) _ hTO⟩, h1.at fun o q => k i1 (by simp) o q, h2.at fun o q => k i2 (by simp) o q⟩
  item := by
    intro X hP hw hK hc i pins s σ H E I hf st hg
    subst hP hw hK
    obtain ⟨hz, hTI, ⟨x0, y0, hTO⟩, h1, h2⟩ := st
    obtain ⟨xs, ys, x, y, hqx, hqy, hx, hy⟩ := hg
    obtain ⟨its, rv, p, _⟩ := I.tuple hqx
    obtain ⟨its2, rv2, p2, _⟩ := I.list hqy
    obtain ⟨u, hu, ru⟩ := rv.get hx
    obtain ⟨u2, hu2, ru2⟩ := rv2.get hy
    have hzl : z < s.heap.objs.size := Heap.lt_size hz
    have n1 : a ≠ i1 := fun q => by
      obtain ⟨o1, e1, c1, _⟩ := id h1
      obtain ⟨o2, e2, c2, _⟩ := id p
      rw [q, e1] at e2; cases e2; rw [c1] at c2; exact absurd c2 (by decide)
    have n2 : b ≠ i2 := fun q => by
      obtain ⟨o1, e1, c1, _⟩ := id h2
      obtain ⟨o2, e2, c2, _⟩ := id p2.isList
      rw [q, e1] at e2; cases e2; rw [c1] at c2; exact absurd c2 (by decide)
    have l1 : i < its.toArray.size := by have z := (List.getElem?_eq_some_iff.mp hu).1; simpa using z
    have l2 : i < its2.toArray.size := by have z := (List.getElem?_eq_some_iff.mp hu2).1; simpa using z
    refine wpAny_pyNext_zipD2_item D (Draws.tuple (A := X.A.in1) (I.ok.hd hc) i1 a n1 its.toArray) (Draws.list (A := X.A.in1) (I.ok.hd hc) i2 b n2 its2.toArray) hz hTI hTO ⟨h1, (show s.heap.IsTuple a its.toArray from p)⟩ ⟨h2, p2.isList⟩ l1 l2 fun x1 x2 h' tk px py z' TO' s1' s2' hT hsz hk => ?_
    have ex : x1 = u := Option.some.inj ((show its.toArray[i]? = some x1 from px).symm.trans (by simpa using hu))
    have ey : x2 = u2 := Option.some.inj ((show its2.toArray[i]? = some x2 from py).symm.trans (by simpa using hu2))
    subst ex ey
    obtain ⟨h1', _⟩ := s1'
    obtain ⟨h2', _⟩ := s2'
    refine ⟨_, rfl, wpAny_letOwnedTupleGo_zip (s := { s with heap := h', toks := tk }) z' fun h'' z'' sb => ?_⟩
    have hT2 : h''.get? s.heap.objs.size = some { cls := .type "tuple", data := .seq #[x1, x2] } := (sb.2 _ (Nat.ne_of_gt hzl)).trans hT
    have new : ObjOk X.prog X.w (upd H s.heap.objs.size (.tup [x, y])) h'' s.heap.objs.size (.tup [x, y]) :=
      ⟨by show 2 ≤ sizeLine; decide, [x1, x2], .cons ru (.cons ru2 .nil), ⟨_, hT2, rfl, _, rfl⟩⟩
    have I1 : Inv X pins σ (upd H s.heap.objs.size (.tup [x, y])) { s with heap := h'', toks := tk } :=
      I.turnedNew (t' := tk) (ch := [z, TI, TO, i1, i2]) (fun c o hb q => (sb.2 c (fun q' => hb (by simp [q']))).trans (hk c o (fun q' => hb (by simp [q'])) (fun q' => hb (by simp [q'])) (fun q' => hb (by simp [q'])) (fun q' => hb (by simp [q'])) q)) hf (Nat.le_refl _) new
    refine ⟨.ref s.heap.objs.size, _, I1, rfl, ⟨_, x, y, rfl, I.hok.fresh (Nat.le_refl _), rfl, fun l hl => by rw [I.tuple_inj hl hqx]; exact hx, fun l hl => by rw [I.list_inj hl hqy]; exact hy⟩, ⟨z'', ?_, ⟨x1, x2, ?_⟩, ?_, ?_⟩, fun c hcm => ?_⟩
    · exact (sb.2 _ D.TIz).trans (hk _ _ D.TIz D.TITO D.TIi1 D.TIi2 hTI)
    · exact (sb.2 _ D.TOz).trans TO'
    · exact h1'.at fun o q => (sb.2 _ (fun e => D.zf1 (e ▸ D.mem1))).trans q
    · exact h2'.at fun o q => (sb.2 _ (fun e => D.zf2 (e ▸ D.mem2))).trans q
    · have hlt : c < s.heap.objs.size := by
        have e' : c = z ∨ c = TI ∨ c = TO ∨ c = i1 ∨ c = i2 := by simpa using hcm
        rcases e' with q | q | q | q | q
        · rw [q]; exact hzl
        · rw [q]; exact Heap.lt_size hTI
        · rw [q]; exact Heap.lt_size hTO
        · rw [q]; obtain ⟨_, e1, _⟩ := h1; exact Heap.lt_size e1
        · rw [q]; obtain ⟨_, e2, _⟩ := h2; exact Heap.lt_size e2
      rw [upd_ne (Nat.ne_of_lt hlt)]
      exact (hf c hcm).1
  done := by
    intro X hP hw hK hc i pins s σ H E I hf st hg
    subst hP hw hK
    obtain ⟨hz, hTI, ⟨x0, y0, hTO⟩, h1, h2⟩ := st
    obtain ⟨xs, ys, hqx, hqy, e1, e2⟩ := hg
    obtain ⟨its, rv, p, _⟩ := I.tuple hqx
    obtain ⟨its2, rv2, p2, _⟩ := I.list hqy
    have l1 := rv.length
    have l2 := rv2.length
    have n1 : a ≠ i1 := fun q => by
      obtain ⟨o1, e1, c1, _⟩ := id h1
      obtain ⟨o2, e2, c2, _⟩ := id p
      rw [q, e1] at e2; cases e2; rw [c1] at c2; exact absurd c2 (by decide)
    have n2 : b ≠ i2 := fun q => by
      obtain ⟨o1, e1, c1, _⟩ := id h2
      obtain ⟨o2, e2, c2, _⟩ := id p2.isList
      rw [q, e1] at e2; cases e2; rw [c1] at c2; exact absurd c2 (by decide)
    exact wpAny_pyNext_zipD2_end D (Draws.tuple (A := X.A.in1) (I.ok.hd hc) i1 a n1 its.toArray) (Draws.list (A := X.A.in1) (I.ok.hd hc) i2 b n2 its2.toArray) hz hTI hTO ⟨h1, (show s.heap.IsTuple a its.toArray from p)⟩ ⟨h2, p2.isList⟩ (by simp; omega) (by simp; omega) (.inl (by simp; omega))
      fun h' tk hk => ⟨rfl, I.turnedL (t' := tk) (ch := [z, TI, TO, i1, i2]) (fun c o hb q => hk c o (fun q' => hb (by simp [q'])) (fun q' => hb (by simp [q'])) (fun q' => hb (by simp [q'])) (fun q' => hb (by simp [q'])) q) hf⟩
  self := fun A i s Q E st h => wpAny_pyIter_zip st.1 h
def iZipM (K : PySem.W.Frag) (ta : TA) : TI := fun σ H R => ta σ H fun vs H1 => ∃ a b xs ys, vs = [.ref a, .ref b] ∧ SqT K H1 a xs ∧ SqL K H1 b ys ∧ R (ItzM K a b) H1
theorem pi_zipM {X : Cx} {e e2 : Expr} {ta : TA} {p pos tpos : Pos} {elts : List Expr} {kk : Nat} (hg : Gl X "zip") (hm : X.mg "zip" = none) (ha : PA X [e, e2] ta)
    (hs : starEach [e, e2] X.env = (false, eval e X.env) :: starEach [e2] X.env := by rfl) (hpl : (backTo pos (starEach [e2] X.env)).any (·.1) = false := by rfl) :
    PI X (.Tuple elts kk tpos) (.Call (.Name "zip" p) [e, e2] [] pos) (iZipM X.K ta) := by
  refine ⟨fun pins s σ H R I h => ?_⟩
  refine Call_ (ld_blt I hg hm PyProof.Rows.boot_zip (PyProof.Rows.callWith_type1 (thn (ha.run pos pins s σ H _ I h) fun us s1 ⟨vs, H1, I1, r1, q1⟩ => ?_) hs hpl))
  obtain ⟨a, b, xs, ys, ex, hqx, hqy, q⟩ := q1
  subst ex
  cases r1 with
  | cons r rr =>
    cases rr with
    | cons r' rr =>
      cases rr
      cases r
      cases r'
      obtain ⟨its, rv, p1, _⟩ := I1.tuple hqx
      obtain ⟨its2, rv2, p2, _⟩ := I1.list hqy
      have la : a < s1.heap.objs.size := p1.lt
      have lb : b < s1.heap.objs.size := p2.lt
      refine zip_begins2 (begins_tuple a its.toArray) (begins_list b its2.toArray) (show s1.heap.IsTuple a its.toArray from p1) p2.isList fun h' hz hTI hTO g1 g2 hsz hk => wpAny_pyIter_zip hz ?_
      have I2 : Inv X pins σ H1 { s1 with heap := h' } := I1.kept (t' := s1.toks) hk
      refine ⟨s1.heap.objs.size + 4, [s1.heap.objs.size + 4, s1.heap.objs.size + 2, s1.heap.objs.size + 3, s1.heap.objs.size, s1.heap.objs.size + 1], _, _, H1, rfl, I2, turn_zipM (zip_sep2 (fp1 := [a]) (fp2 := [b]) (fun c hc => ?_) (fun c hc => ?_)), ⟨hz, hTI, ⟨_, _, hTO⟩, ⟨_, g1, rfl, rfl⟩, ⟨_, g2, rfl, rfl⟩⟩, fun c hcm => ?_, q⟩
      · have z : c = a := by simpa using hc
        rw [z]; exact la
      · have z : c = b := by simpa using hc
        rw [z]; exact lb
      have e' : c = s1.heap.objs.size + 4 ∨ c = s1.heap.objs.size + 2 ∨ c = s1.heap.objs.size + 3 ∨ c = s1.heap.objs.size ∨ c = s1.heap.objs.size + 1 := by simpa using hcm
      have hle : s1.heap.objs.size ≤ c := by
        rcases e' with z | z | z | z | z
        · rw [z]; exact Nat.le_add_right _ _
        · rw [z]; exact Nat.le_add_right _ _
        · rw [z]; exact Nat.le_add_right _ _
        · rw [z]; exact Nat.le_refl _
        · rw [z]; exact Nat.le_add_right _ _
      exact I1.fpOk hle (I1.hok.fresh hle)
/-- a comprehension over one of n turns -/
theorem lc_n {J : It} {n : Nat} {g : TG} {tt : TT} {te : TE} {vs : List Nat} {σ : L2.St} {H1 : Hp} {D : Addr} {Qd : Hp → Prop} (Pv : Nat → Hp → Prop) (h0 : Pv 0 (upd H1 D (.lst [])))
    (hgo : ∀ i H, i < n → Pv i H → J.go i H) (hst : ∀ H, Pv n H → J.stop n H)
    (hs : ∀ i x H H', i < n → Pv i H → J.yld i H x H' → g x (wipe σ vs) H' fun σ2 H2 => wipe σ2 vs = wipe σ vs ∧ tt σ2 H2 fun b H3 =>
      if b = true then te σ2 H3 fun y H4 => ∃ acc, H4 D = some (.lst acc) ∧ acc.length < sizeLine ∧ Pv (i + 1) (upd H4 D (.lst (acc ++ [y]))) else Pv (i + 1) H3) (hd : ∀ H, Pv n H → Qd H) :
    ∃ W : Nat → Nat → Hp → Prop, (∃ m, W 0 m (upd H1 D (.lst []))) ∧ ∀ i m H, W i m H →
      (J.stop i H ∧ Qd H) ∨ (J.go i H ∧ ∃ Nx : Hp → Prop, (∀ H', Nx H' → ∃ m', m' < m ∧ W (i + 1) m' H') ∧ ∀ x H', J.yld i H x H' → g x (wipe σ vs) H' fun σ2 H2 => wipe σ2 vs = wipe σ vs ∧ tt σ2 H2 fun b H3 =>
        if b = true then te σ2 H3 fun y H4 => ∃ acc, H4 D = some (.lst acc) ∧ acc.length < sizeLine ∧ Nx (upd H4 D (.lst (acc ++ [y]))) else Nx H3) := by
  refine ⟨fun i m H => m = n - i ∧ i ≤ n ∧ Pv i H, ⟨n, rfl, Nat.zero_le _, h0⟩, ?_⟩
  rintro i m H ⟨rfl, hi, p⟩
  by_cases hlt : i < n
  · exact .inr ⟨hgo i H hlt p, Pv (i + 1), fun H' p' => ⟨n - (i + 1), by omega, rfl, hlt, p'⟩, fun x H' y => hs i x H H' hlt p y⟩
  · have e : i = n := by omega
    subst e
    exact .inl ⟨hst H p, hd H p⟩
end W1
namespace WT
open PySem PySem.Spec PySem.W PyProof.Rows L2
section
variable {prog : Program} {w : World} {A : Around} {E : Value → Shared → Prop} {s : Shared}
theorem fm_congr {α β : Type} {f g : α → Option β} : ∀ {l : List α}, (∀ m ∈ l, f m = g m) → l.filterMap f = l.filterMap g
  | [], _ => rfl
  | a :: l, h => by
    rw [List.filterMap_cons, List.filterMap_cons, h a (List.mem_cons_self ..), fm_congr fun m hm => h m (List.mem_cons_of_mem _ hm)]
theorem pick_rev (its : List Value) : ((List.range its.length).filterMap fun (m : Nat) => its.toArray[(((its.length : Int) - 1) + (m : Int) * (-1)).toNat]?).toArray = its.reverse.toArray := by
  have e : ∀ m ∈ List.range its.length, its.toArray[(((its.length : Int) - 1) + (m : Int) * (-1)).toNat]? = its.reverse.toArray[m]? := fun m hm => by
    have h : m < its.length := List.mem_range.mp hm
    have z : (((its.length : Int) - 1) + (m : Int) * (-1)).toNat = its.length - 1 - m := by omega
    rw [z, List.getElem?_toArray, List.getElem?_toArray, List.getElem?_reverse h]
  rw [fm_congr e]
  have k := PySem.W.krv_all its.reverse.toArray
  rw [List.size_toArray, List.length_reverse] at k
  rw [k]
theorem getItem_tup_rev {t sl : Addr} {its : List Value} {vl vu vs : Value} {Q : Value → Shared → Prop} (ht : IsTup s.heap t its.toArray) (hs : s.heap.IsSliceOf sl vl vu vs) (pl : IsPart vl none) (pu : IsPart vu none) (ps : IsPart vs (some (-1)))
    (h : Q (.ref s.heap.objs.size) { s with heap := s.heap.push { cls := .type "tuple", data := .seq its.reverse.toArray } })
    (hsz : its.length ≤ sizeLine) : wpAny (model prog w) A (getItem (.ref t) (.ref sl)) Q E s := by
  have htake : sizeOk (.seq its.reverse.toArray) := by
    show its.reverse.toArray.size ≤ sizeLine
    rw [List.size_toArray, List.length_reverse]
    exact hsz
  obtain ⟨os, hos, hcs, hds⟩ := id hs
  have hTs : s.TypeIs (.ref sl) "slice" := ⟨os, hos, hcs⟩
  unfold getItem
  try with_reducible refine wpAny_holding ?_
  first | refine wpAny_bind (wpAny_pure ?_) | skip
  refine wpAny_bind (wpAny_sequenceKey ht.typeIs (by decide) ?_)
  refine wpAny_bind (wpAny_callSpecial?_slot (name := Str.ofString "__getitem__") ht.typeIs PyProof.Rows.slot_tuple_getitem
    (wpAny_call_entry PyProof.Rows.slot_tuple_getitem ht.typeIs PyProof.Rows.entry_tuple_getitem ?_ (PyProof.Rows.args_tuple_getitem _ _)))
  show wpAny _ _ (Builtin.Tuple.tupleItemsOf (.ref t) >>= _) _ _ s
  refine wpAny_bind (tupleItemsOf_ ht ?_)
  refine wpAny_bind (wpAny_typeOf hTs ?_)
  rw [if_pos (by decide)]
  refine wpAny_bind ?_
  unfold Builtin.Slice.sliceApplied Builtin.Slice.sliceFields
  refine wpAny_bind (wpAny_bind (wpAny_field hos hds (x := vl) rfl (wpAny_bind (wpAny_field hos hds (x := vu) rfl (wpAny_bind (wpAny_field hos hds (x := vs) rfl (wpAny_pure ?_)))))))
  refine wpAny_bind (HT.slicePart_ ps ?_)
  show wpAny _ _ (if ((-1 : Int) == 0) = true then _ else _) _ _ s
  rw [if_neg (by decide)]
  refine wpAny_bind (HT.slicePart_ pl (wpAny_bind (HT.slicePart_ pu (wpAny_bind (wpAny_pure ?_)))))
  have e1 : Builtin.Slice.sliceAdjust none none (-1) (its.toArray.size : Int) = ((its.length : Int) - 1, -1) := by
    simp [Builtin.Slice.sliceAdjust]
  have e2 : Builtin.Slice.slicePlaces ((its.length : Int) - 1) (-1) (-1) = its.length := by
    unfold Builtin.Slice.slicePlaces
    by_cases hz : its.length = 0
    · rw [hz]; decide
    · rw [if_neg (by decide), if_pos (by omega)]
      have q : ((its.length : Int) - 1 - (-1) - 1) / (- (-1)) + 1 = (its.length : Int) := by
        rw [show (- (-1) : Int) = 1 by decide, Int.ediv_one]
        omega
      rw [q]
      omega
  show wpAny _ _ (match Builtin.Slice.sliceAdjust none none (-1) (its.toArray.size : Int) with | (lo, hi) => pure (lo, (-1 : Int), Builtin.Slice.slicePlaces lo hi (-1))) _ _ s
  rw [e1]
  show wpAny _ _ (pure (((its.length : Int) - 1), (-1 : Int), Builtin.Slice.slicePlaces ((its.length : Int) - 1) (-1) (-1))) _ _ s
  rw [e2]
  refine wpAny_pure ?_
  show wpAny _ _ (if ((((its.length : Int) - 1) == 0 && (-1 : Int) == 1 && its.length == its.toArray.size) = true) then _ else _) _ _ s
  rw [if_neg (by rw [show ((-1 : Int) == 1) = false by decide, Bool.and_false, Bool.false_and]; decide), pick_rev]
  first
    | exact wpAny_bind (m := Builtin.Tuple.tupleExact _) (wpAny_newObj_type (wpAny_pure ⟨_, rfl, wpAny_pure h⟩) htake)
    | exact wpAny_bind (m := Builtin.Tuple.tupleExact _) (wpAny_newObj_type (wpAny_bind (wpAny_pure (wpAny_pure ⟨_, rfl, wpAny_pure h⟩))) htake)
    | exact wpAny_bind (wpAny_bind (m := Builtin.Tuple.tupleExact _) (wpAny_newObj_type (wpAny_pure (wpAny_pure ⟨_, rfl, wpAny_pure h⟩)) htake))
    | exact wpAny_bind (wpAny_bind (m := Builtin.Tuple.tupleExact _) (wpAny_newObj_type (wpAny_pure ⟨_, rfl, wpAny_pure h⟩) htake))
end
end WT
namespace W1
open PySem PySem.Spec PyProof.Rows L2
section
variable {X : Cx}
/-- t[::-1] of a tuple of two items or more, or of one -/
def tRevT (K : PySem.W.Frag) (te : TE) : TE := fun σ H Q => te σ H fun x H1 => ∃ a xs, x = .ref a ∧ SqT K H1 a xs ∧ ∀ p, H1 p = none → Q (.ref p) (upd H1 p (.tup xs.reverse))
theorem pe_revT {e : Expr} {te : TE} {k : Nat} {p1 p2 p3 pos : Pos} (he : PE X e te) : PE X (.Subscript e (.Slice none none (some (.UnaryOp .USub (.Constant (.int 1) k p1) p2)) p3) pos) (tRevT X.K te) := by
  refine ⟨fun pins s σ H Q I h => ?_⟩
  refine Subscript_ (thn (he.run pins s σ H _ I h) fun v s1 ⟨x, H1, I1, r1, q1⟩ => ?_)
  obtain ⟨a, xs, ex, hx, q⟩ := q1
  subst ex
  cases r1
  have hst : PO X (some (.UnaryOp .USub (.Constant (.int 1) k p1) p2)) (tPart (tUn (rU fun i => .int (-i)) (tC (.int 1)))) := po_some (pe_un un_neg pe_int)
  refine wpAny_Slice (thn (po_none.run pins s1 σ H1 (fun o H2 => o = none ∧ H2 = H1) I1 ⟨rfl, rfl⟩) fun vl s2 ⟨l, H2, I2, pl, el, e2⟩ => ?_)
  subst el e2
  refine thn (po_none.run pins s2 σ H2 (fun o H3 => o = none ∧ H3 = H2) I2 ⟨rfl, rfl⟩) fun vu s3 ⟨u, H3, I3, pu, eu, e3⟩ => ?_
  subst eu e3
  refine thn (hst.run pins s3 σ H3 (fun o H4 => o = some (-1) ∧ H4 = H3) I3 ⟨1, rfl, -1, rfl, rfl, rfl⟩) fun vs s4 ⟨o, H4, I4, ps, eo, e4⟩ => ?_
  subst eo e4
  have I5 : Inv X pins σ H4 { s4 with heap := s4.heap.push { cls := .type "slice", data := .fields #[vl, vu, vs] } } := I4.kept (t' := s4.toks) fun b ob q => Heap.get?_push_of_some _ q
  obtain ⟨its, r, ht, hz⟩ := I5.tuple hx
  have hlen := r.length
  show wpAny (model X.prog X.w) X.A (subscriptTail e (.Slice none none (some (.UnaryOp .USub (.Constant (.int 1) k p1) p2)) p3) (.ref a) (.ref s4.heap.objs.size)) (EP X pins σ Q) X.xe { s4 with heap := s4.heap.push { cls := .type "slice", data := .fields #[vl, vu, vs] } }
  refine tail_any (ops := [.ref a, .ref s4.heap.objs.size]) ht.typeIs (PyProof.Rows.slot_tuple_getitem.lookup) ?_ (by with_unfolding_all rfl)
  refine _root_.WT.getItem_tup_rev ht (Heap.IsSliceOf.new _ vl vu vs) pl pu ps ?_ (by omega)
  refine ⟨.ref _, _, I5.laid (t' := s4.toks) (o := .tup xs.reverse) (fun b ob q => Heap.get?_push_of_some _ q) (Nat.le_refl _) ?_, rfl, q _ (I5.hok.fresh (Nat.le_refl _))⟩
  exact ⟨by rw [List.length_reverse]; exact hz, _, r.reverse, IsTup.new _ _⟩
end
end W1
end
section
/-! super().m(..) in the methods of a class: the frame with the cell __class__ -/
namespace W1
open PySem PySem.Spec PyProof.Rows L2
theorem rl_none {x : Str} : ∀ {P : List Str} {us : List Value}, x ∉ P → (P.zip us).reverse.lookup x = none
  | [], _, _ => rfl
  | _ :: _, [], _ => rfl
  | p :: P, u :: us, h => by
    have h1 : x ≠ p := fun e => h (e ▸ List.mem_cons_self ..)
    have h2 : x ∉ P := fun e => h (List.mem_cons_of_mem _ e)
    rw [List.zip_cons_cons, List.reverse_cons, List.lookup_append, rl_none h2]
    have q : (x == p) = false := by simpa using h1
    simp [List.lookup, q]
theorem rl_get {x : Str} {v : Value} : ∀ {P : List Str} {us : List Value} {i : Nat}, P.Nodup → P[i]? = some x → us[i]? = some v → (P.zip us).reverse.lookup x = some v
  | [], _, _, _, h, _ => by simp at h
  | _ :: _, [], _, _, _, h => by simp at h
  | p :: P, u :: us, 0, nd, h1, h2 => by
    simp at h1 h2; subst h1; subst h2
    rw [List.zip_cons_cons, List.reverse_cons, List.lookup_append, rl_none (List.nodup_cons.mp nd).1]
    simp [List.lookup]
  | p :: P, u :: us, i + 1, nd, h1, h2 => by
    rw [List.zip_cons_cons, List.reverse_cons, List.lookup_append, rl_get (i := i) (List.nodup_cons.mp nd).2 (by simpa using h1) (by simpa using h2)]
    rfl
theorem bootSuper : bootBuiltins "super" = some (.type "super") := by kernel_rfl
/-- the scope of such a method: its parameters, and the free __class__ -/
structure SScope (ps : List Str) (sc : Scope) : Prop where
  kind : sc.kind = .function
  co : sc.isCoroutine = false
  gen : sc.isGenerator = false
  nd : ps.Nodup
  par : ∀ x ∈ ps, sc.names.lookup x = some .local
  nocell : ∀ y ∈ sc.names, y.2 ≠ .cell
  free : ∀ y ∈ sc.names, y.2 = .free → y.1 = ("__class__" : Str)
  isfree : sc.names.lookup ("__class__" : Str) = some .free
  sup : sc.names.lookup ("super" : Str) = some .globalImplicit
abbrev fnS (name qual : Str) (params : Arguments) (body : List Stmt) (scope : Scope) (dV kV doc pm : Value) (an : Option Addr) (cdv ct : Value) (c : Addr) : FuncData :=
  { PySem.W.fnOf name qual params body scope dV kV doc pm an cdv ct with closure := [("__class__", c)] }
def sEnv (qual : Str) (scope : Scope) (L f : Addr) (cd : Value) (c : Addr) : Env :=
  { scope := scope, locals := L, globals := mainGlobals, cells := [("__class__", c)], qual := qual ++ ".<locals>.", func := some f, code := cd, frame := some L, builtins := builtinsNs }
def cxS (CX : CXT) (P : Program) (w : World) (K : PySem.W.Frag) (mg : Str → Option Value) (base : Heap) (N : List Str) (qual : Str) (scope : Scope) (f : Addr) (cd : Value) (c : Addr) (A : Around) (outer : List Env) (s : Shared) (H : Hp) (E : XK) : Cx where
  prog := P
  w := w
  K := K
  mg := mg
  base := base
  A := A.deeper (sEnv qual scope s.heap.objs.size f cd c)
  N := N
  s_0 := s
  H_0 := H
  env := sEnv qual scope s.heap.objs.size f cd c
  outer := outer
  stack := sEnv qual scope s.heap.objs.size f cd c :: outer
  ex := []
  calm := true
  fn := fun _ => false
  pn := []
  xe := fun e s' => wpAny (model P w) (A.deeper (sEnv qual scope s.heap.objs.size f cd c)) (leaving (sEnv qual scope s.heap.objs.size f cd c) e) (fun _ s'' => CX outer H s E e s'') (fun e' s'' => CX outer H s E e' s'') s'
/-- the class in the cell -/
structure SCell (K : PySem.W.Frag) (c D : Addr) : Prop where
  ex : ∃ o, K.lookup c = some o ∧ o.data = .cell (some (.ref D))
section
variable {CX : CXT} {P : Program} {w : World} {K : PySem.W.Frag} {mg : Str → Option Value} {base : Heap} {ps : List Str} {qual : Str} {scope : Scope} {f c D : Addr} {cd : Value} {A : Around} {outer : List Env} {s : Shared} {h1 : Heap} {tk : Nat} {H : Hp} {E : XK} {us : List Value} {vs : List V}
theorem inv_startS (S : SScope ps scope) (hd : A.handled = none) (e0 : Env0 P w K mg base A outer s H) (hl : vs.length = ps.length) (r : Vals vs us) (hc : SCell K c D)
    (hn : h1.Ns s.heap.objs.size (fun x => (ps.zip us).reverse.lookup x)) (hk : ∀ b o, s.heap.get? b = some o → h1.get? b = some o) :
    Inv (cxS CX P w K mg base ps qual scope f cd c A outer s H E) [] (vs.map some) H { s with heap := h1, toks := tk } := by
  obtain ⟨oc, lc, dc⟩ := hc.ex
  have cin : base.get? c = some oc := e0.mod.kin _ _ lc
  have noA : ∀ b : Addr, b ∉ (cxS CX P w K mg base ps qual scope f cd c A outer s H E).ex := fun b z => absurd (show b ∈ ([] : List Addr) from z) (by simp)
  have lk : ∀ y d, (sEnv qual scope s.heap.objs.size f cd c).cells.lookup y = some d → y = ("__class__" : Str) ∧ d = c := fun y d e => by
    have e' : List.lookup y [(("__class__" : Str), c)] = some d := e
    by_cases hy : y = ("__class__" : Str)
    · subst hy
      simp [List.lookup] at e'
      exact ⟨rfl, e'.symm⟩
    · have q : (y == ("__class__" : Str)) = false := by simpa using hy
      simp [List.lookup, q] at e'
  refine ⟨⟨e0.mod, S.kind, rfl, rfl, Nat.le_refl _, fun y z d h1 h2 => ?_, fun y hy => ?_, fun y d hf h => ?_, fun _ => hd, Around.frames_deeper e0.frames, .inr ⟨rfl, rfl⟩, fun b z => absurd z (noA b), e0.bs, e0.bsz, fun b _ _ => noA b, fun b z => absurd z (noA b), e0.funs, e0.frf⟩,
    rfl, e0.bare, Un.kept hk, ⟨_, hn, fun i y v g1 g2 g3 => ?_⟩, fun y d h => ?_, e0.hok.fresh (Nat.le_refl _), fun y d h => ?_, fun p hp => absurd (show p ∈ ([] : List (Addr × Obj)) from hp) (by simp), e0.hok.kept hk, ?_⟩
  · exact (lk y d h1).1.trans (lk z d h2).1.symm
  · have hy : scope.names.lookup y = some .cell ∨ scope.names.lookup y = some .free := hy
    rcases hy with hy | hy
    · exact absurd rfl (S.nocell _ (PySem.mem_of_lookup hy))
    · have e := S.free _ (PySem.mem_of_lookup hy) rfl
      have e' : y = ("__class__" : Str) := e
      subst e'
      exact ⟨c, by show List.lookup _ [(("__class__" : Str), c)] = _; simp [List.lookup]⟩
  · exact absurd (show (false : Bool) = true from hf) Bool.false_ne_true
  · have ha : vs[i]? = some v := by
      rw [List.getElem?_map] at g2
      cases e : vs[i]? with
      | none => rw [e] at g2; cases g2
      | some a => rw [e] at g2; cases g2; rfl
    obtain ⟨u, hu, rv⟩ := r.get ha
    have hp : ps[i]? = some y := g1
    exact ⟨u, rv, .inl ⟨S.par y (List.mem_of_getElem? hp), rl_get S.nd hp hu⟩⟩
  · obtain ⟨_, e⟩ := lk y d h
    subst e
    exact ⟨some (.ref D), oc, hk _ _ (e0.bs _ _ cin).1, dc⟩
  · obtain ⟨_, e⟩ := lk y d h
    subst e
    exact (e0.bs _ _ cin).2
  · show (vs.map some).length = ps.length
    rw [List.length_map]
    exact hl
/-- what such a method's body is shown to do -/
def BodyS (X : Cx) (body : List Stmt) (vs : List V) (H : Hp) (Q : VK) : Prop :=
  ∀ s1, Inv X [] (vs.map some) H s1 → PySem.wpAt (model X.prog X.w) X.A (.func body X.env) (execs body X.env) (SP X [] { nx := fun _ H' => Q .non H', rt := Q }) X.xe s1
theorem fn_ofS {k : Nat} {name : Str} {params : Arguments} {body : List Stmt} {dV kV doc pm cdv ct oc : Value} {an od : Option Addr} {osl : Array (Option Value)} {sp : Sp}
    (lk : K.lookup f = some ⟨oc, od, .func (fnS name qual params body scope dV kV doc pm an cdv ct c), osl⟩) (hcd : PySem.W.codeIn K cdv qual = true) (S : SScope ps scope) (hc : SCell K c D)
    (len : ∀ vs H Q E, sp vs H Q E → vs.length = ps.length)
    (hbody : ∀ (A : Around) (outer : List Env) (s : Shared) (H : Hp) (vs : List V) (Q : VK) (E : XK), Room k (A.deeper (sEnv qual scope s.heap.objs.size f cdv c)) → sp vs H Q E →
      BodyS (cxS CX P w K mg base ps qual scope f cdv c A outer s H E) body vs H Q) :
    FnOk P w K mg base CX (k + 1) f (fnS name qual params body scope dV kV doc pm an cdv ct c) ps sp := by
  refine ⟨len, fun A outer s H args us vs Q E hr e0 hb r hsp => ?_⟩
  have hl := len _ _ _ _ hsp
  have KX : K.In s.heap := e0.mod.kin.keeps fun b o e => (e0.bs b o e).1
  have lim : s.heap.NoLimit := e0.mod.nolimit.keeps fun b o e => (e0.bs b o e).1
  refine ks_codeAny_call_defAt hr.depth (KX _ _ lk) rfl lim (PySem.W.codeRec_of KX hcd) rfl hb S.nocell (fun x hx => S.par x.1 (List.of_mem_zip (a := x.1) (b := x.2) hx).1) (fun h₀ hn hk => ?_) S.co S.gen S.kind
  have I : Inv (cxS CX P w K mg base ps qual scope f cdv c A outer s H E) [] (vs.map some) H { s with heap := h₀, toks := s.toks + (ps.zip us).length } := inv_startS S hr.hd e0 hl r hc hn hk
  have z := hbody A outer s H vs Q E (hr.deeper _) hsp _ I
  refine PySem.wpAt_mono z (fun fl s' hs => ?_) fun e s' hs => hs
  have fin : ∀ {σ' : L2.St} {H' : Hp} {v : V} {u : Value}, Inv (cxS CX P w K mg base ps qual scope f cdv c A outer s H E) [] σ' H' s' → RelV v u → Q v H' → CE outer P w H s Q u s' :=
    fun {σ' H' v u} J rv q => ⟨v, H', J.os, J.bare, J.base, J.hok, rv, q⟩
  cases fl with
  | ret u =>
    obtain ⟨v, σ', H', J, rv, q⟩ := hs
    exact fin J rv q
  | next =>
    obtain ⟨σ', H', J, q⟩ := hs
    exact fin (v := V.non) (u := Value.none) J rfl q
  | brk =>
    obtain ⟨_, _, _, q⟩ := hs
    exact False.elim q
  | cont =>
    obtain ⟨_, _, _, q⟩ := hs
    exact False.elim q
end

/-- what of the text super().m needs, at an instance of C, in a method of D -/
structure SupF (K : PySem.W.Frag) (mro : List Value) (D C f : Addr) (m : Str) : Prop where
  any : PySem.W.nsIn K cStatics "thirdparty.any" = some none
  cls : ∃ cd, PySem.W.clsIn K C = some cd ∧ cd.mro = mro
  clD : ∃ o cd, K.lookup D = some o ∧ o.data = .cls cd
  sub : PySem.W.subIn K (.ref C) (.ref D) = some true
  along : PySem.W.alongIn K m ((mro.dropWhile (· != .ref D)).drop 1) = some (some (.ref f))
  fn : ∃ o fd, K.lookup f = some o ∧ o.cls = .type "function" ∧ o.data = .func fd
  fi : PySem.W.fnIn K f = true
  nc : (m == ("__class__" : Str)) = false
section
variable {CX : CXT} {P : Program} {w : World} {K : PySem.W.Frag} {mg : Str → Option Value} {base : Heap} {ps : List Str} {qual : Str} {scope : Scope} {f g c D : Addr} {cd : Value} {A : Around} {outer : List Env} {s0 : Shared} {H0 : Hp} {E0 E : XK}
  {name : Str} {params : Arguments} {body : List Stmt} {dV kV doc pm cdv ct oc : Value} {an od : Option Addr} {osl : Array (Option Value)}
/-- what the frame itself needs -/
structure SFr (P : Program) (K : PySem.W.Frag) (f c D : Addr) (name qual : Str) (params : Arguments) (body : List Stmt) (scope : Scope) (dV kV doc pm : Value) (an : Option Addr) (cdv ct oc : Value) (od : Option Addr) (osl : Array (Option Value)) (ps : List Str) : Prop where
  lk : K.lookup f = some ⟨oc, od, .func (fnS name qual params body scope dV kV doc pm an cdv ct c), osl⟩
  scope : SScope ps scope
  cell : SCell K c D
  arg : ∃ ar, (params.posonlyargs ++ params.args).head? = some ar ∧ ps[0]? = some ar.arg
  code : ∃ (cc : Addr) (o : Obj) (vs : Array Value) (file : Str) (tf : Tok), cdv = .ref cc ∧ K.lookup cc = some o ∧ o.data = .fields vs ∧ vs[2]? = some (.str file tf) ∧ ((P.main.file : Str) == file) = true
  top : (P.main.scope.names.lookup ("super" : Str)).isSome = false
theorem sup_eval {m : Str} {p0 p1 : Pos} {Q : Value → Shared → Prop} {whole : Sem Value} {C dx : Addr} {pins : List (Addr × Obj)} {σ : L2.St} {H : Hp} {s : Shared} {fs : List (Str × V)} {a : Addr}
    (T : SFr P K f c D name qual params body scope dV kV doc pm an cdv ct oc od osl ps) (hm : mg "super" = none) (hnm : (m == ("__class__" : Str)) = false)
    (I : Inv (cxS CX P w K mg base ps qual scope f cdv c A outer s0 H0 E0) pins σ H s) (hσ : σ[0]? = some (some (.ref a))) (ha : H a = some (.ins C dx fs)) (clD : ∃ o cd, K.lookup D = some o ∧ o.data = .cls cd) (sub : PySem.W.subIn K (.ref C) (.ref D) = some true)
    (hq : ∀ s', Inv (cxS CX P w K mg base ps qual scope f cdv c A outer s0 H0 E0) ((s.heap.objs.size, { cls := .type "super", dict := none, data := .fields #[.ref D, .ref a, .ref C], slots := #[] }) :: pins) σ H s' → Q (.ref s.heap.objs.size) s') :
    PySem.wpAt (model P w) (A.deeper (sEnv qual scope s0.heap.objs.size f cdv c)) (.func body (sEnv qual scope s0.heap.objs.size f cdv c)) (attributeBase (.Call (.Name "super" p0) [] [] p1) m (sEnv qual scope s0.heap.objs.size f cdv c) whole) Q (cxS CX P w K mg base ps qual scope f cdv c A outer s0 H0 E0).xe s := by
  obtain ⟨ar, har, hps⟩ := T.arg
  obtain ⟨cc, oco, vs, file, tf, rfl, lcc, dcc, hvs, hfile⟩ := T.code
  obtain ⟨oD, cdD, lD, dD⟩ := clD
  have KX := I.kIn
  have S := T.scope
  refine ks_wpAt_super_base (f := f) (cc := cc) (of := ⟨oc, od, .func (fnS name qual params body scope dV kV doc pm an (.ref cc) ct c), osl⟩) (oc := oco) (fd := fnS name qual params body scope dV kV doc pm an (.ref cc) ct c) (ar := ar) S.sup S.isfree hnm rfl (KX _ _ T.lk) rfl har rfl (KX _ _ lcc) dcc hvs hfile T.top ?_
  obtain ⟨mb, g1, g2⟩ := I.mod.blt
  have hlg : ∀ {Q' : Value → Shared → Prop}, Q' (.type "super") s → wpAny (model P w) (A.deeper (sEnv qual scope s0.heap.objs.size f (.ref cc) c)) (loadName (sEnv qual scope s0.heap.objs.size f (.ref cc) c) "super") Q' (cxS CX P w K mg base ps qual scope f (.ref cc) c A outer s0 H0 E0).xe s := fun {Q'} q => by
    unfold loadName
    have hk : (sEnv qual scope s0.heap.objs.size f (.ref cc) c).scope.kind = .function := S.kind
    have hx : (sEnv qual scope s0.heap.objs.size f (.ref cc) c).kindOf "super" = some .globalImplicit := S.sup
    simp only [Env.blockKind, hk, hx, ScopeKind.isAnnotationScope, Bool.false_and, Bool.false_eq_true, if_false]
    exact Calls.loadGlobal_builtin (I.mod.glob.keeps I.bk) hm (g1.keeps I.bk) ((g2 "super" (by decide)).trans (bootSuper)) q
  refine hlg ⟨rfl, ?_⟩
  obtain ⟨ocell, lc, dc⟩ := T.cell.ex
  refine wpAny_loadName_free S.kind S.isfree (c := c) (by show List.lookup _ [(("__class__" : Str), c)] = _; simp [List.lookup]) ⟨ocell, KX _ _ lc, dc⟩ ?_
  obtain ⟨mL, hn, hl⟩ := I.loc
  obtain ⟨u, ru, lu⟩ := hl 0 ar.arg (.ref a) hps hσ (.inl (S.par _ (List.mem_of_getElem? hps)))
  obtain rfl : u = Value.ref a := ru
  have hloc : (sEnv qual scope s0.heap.objs.size f (.ref cc) c).kindOf ar.arg = some .local := S.par _ (List.mem_of_getElem? hps)
  rcases lu with ⟨_, hmu⟩ | ⟨hk, _⟩
  · refine wpAny_loadName_local S.kind hloc hn hmu ?_
    obtain ⟨hh, gg, d, t, os⟩ := s
    refine ks_wpAny_isType_cls (KX _ _ lD) dD ⟨rfl, ?_⟩
    obtain ⟨_, _, _, hins, _⟩ := I.hok a _ ha
    refine ks_wpAny_call_super (KX _ _ lD) dD hins rfl (fun cc' z => nomatch z) (PySem.W.looks_subIn KX sub) (fun h' e k => hq _ ?_)
    exact ClX.pin_new I k (Nat.le_refl _) e (fun v z => nomatch z)
  · have hk' : (sEnv qual scope s0.heap.objs.size f (.ref cc) c).kindOf ar.arg = some .cell ∨ (sEnv qual scope s0.heap.objs.size f (.ref cc) c).kindOf ar.arg = some .free := hk
    rw [hloc] at hk'
    rcases hk' with z | z <;> cases z
theorem sup_meth {m : Str} {pl : Sem Bool} {Q : Value × List Value → Shared → Prop} {E' : Value → Shared → Prop} {A' : Around} {X : Cx} {C dx so : Addr} {mro : List Value} {pins : List (Addr × Obj)} {σ : L2.St} {H : Hp} {s : Shared} {fs : List (Str × V)} {a : Addr}
    (T : SupF X.K mro D C g m) (I : Inv X ((so, { cls := .type "super", dict := none, data := .fields #[.ref D, .ref a, .ref C], slots := #[] }) :: pins) σ H s) (ha : H a = some (.ins C dx fs))
    (hq : ∀ s', Inv X ((s.heap.objs.size, PySem.W.methodObj (.ref g) (.ref a)) :: pins) σ H s' → Q (.ref s.heap.objs.size, []) s') : wpAny (model X.prog X.w) A' (getMethod (.ref so) m pl) Q E' s := by
  obtain ⟨cd, hcd, hmro⟩ := T.cls
  obtain ⟨og, fdg, lg, cg, _⟩ := T.fn
  have KX := I.kIn
  have hso := ClX.pin_at I
  have haC : a ≠ C := fun e => by
    subst e
    unfold PySem.W.clsIn at hcd
    cases hl : X.K.lookup a with
    | none => rw [hl] at hcd; cases hcd
    | some o =>
      have b := I.mod.kin _ _ hl
      have z := (I.bs a o b).2
      rw [ha] at z
      cases z
  obtain ⟨hh, gg, d, t, os⟩ := s
  have hC : PySem.W.Looks (model X.prog X.w) hh (mroOf (.ref C)) mro := by
    have z : PySem.W.Looks (model X.prog X.w) hh (mroOf (.ref C)) cd.mro := (PySem.W.looks_clsIn KX hcd).andThen .now
    rw [hmro] at z
    exact z
  refine ks_wpAny_getMethod_super hso (PySem.W.looks_opaque KX T.any) hC rfl KX T.along (KX _ _ lg) cg haC T.nc (hq _ ?_)
  exact ClX.met_new (C := a) (g := g) (show Inv X pins σ H ⟨hh, gg, d, t, os⟩ from ClX.unpin I)
end
/-- an expression, at the method's own code -/
structure PEs (X : Cx) (body : List Stmt) (e : Expr) (t : TE) : Prop where
  run : ∀ (pins : List (Addr × Obj)) (s : Shared) (σ : L2.St) (H : Hp) (Q : VK), Inv X pins σ H s → t σ H Q → PySem.wpAt (model X.prog X.w) X.A (.func body X.env) (eval e X.env) (EP X pins σ Q) X.xe s
def tSup (C : Addr) (sp : Sp) (E : XK) (t : TA) : TE := fun σ H Q => ∃ a dx fs, σ[0]? = some (some (.ref a)) ∧ H a = some (.ins C dx fs) ∧ t σ H fun vs H2 => sp (.ref a :: vs) H2 Q E
section
variable {CX CX' : CXT} {P : Program} {w : World} {K : PySem.W.Frag} {mg : Str → Option Value} {base : Heap} {ps : List Str} {qual : Str} {scope : Scope} {f g c D C : Addr} {A : Around} {outer : List Env} {s0 : Shared} {H0 : Hp} {E0 E : XK}
  {name : Str} {params : Arguments} {body : List Stmt} {dV kV doc pm cdv ct oc : Value} {an od : Option Addr} {osl : Array (Option Value)} {m : Str} {p0 p1 apos pos : Pos} {e : Expr} {es : List Expr} {t : TA} {k : Nat} {sp : Sp} {mro : List Value} {pl : Sem Bool} {X : Cx}
/-- super().m(e, ..) -/
theorem pes_super (hX : X = cxS CX P w K mg base ps qual scope f cdv c A outer s0 H0 E0) (T : SFr P K f c D name qual params body scope dV kV doc pm an cdv ct oc od osl ps) (hm : mg "super" = none) (U : SupF K mro D C g m) (F : FnR P w K mg base CX' k g sp) (hr : Room k X.A) (hx : Passes CX' X E) (ha : PA X (e :: es) t)
    (hst : starEach (e :: es) X.env = (false, eval e X.env) :: starEach es X.env := by rfl) (hpl : (backTo pos (starEach es X.env)).any (·.1) = false := by rfl)
    (ht : eval (.Call (.Attribute (.Call (.Name "super" p0) [] [] p1) m apos) (e :: es) [] pos) X.env = (do
      let ov ← attributeBase (.Call (.Name "super" p0) [] [] p1) m X.env (eval (.Call (.Name "super" p0) [] [] p1) X.env)
      standAt apos.atName
      let (f, first) ← holding [ov] (getMethod ov m pl)
      callWith pos f first (backTo pos (starEach (e :: es) X.env)) []) := by rfl) :
    PEs X body (.Call (.Attribute (.Call (.Name "super" p0) [] [] p1) m apos) (e :: es) [] pos) (tSup C sp E t) := by
  subst hX
  refine ⟨fun pins s σ H Q I h => ?_⟩
  obtain ⟨a, dx, fs, hσ, ha', q⟩ := h
  refine ks_wpAt_MethodCall (pl := pl) (sup_eval T hm U.nc I hσ ha' U.clD U.sub fun s1 I1 => ?_) ht
  refine sup_meth (X := cxS CX P w K mg base ps qual scope f cdv c A outer s0 H0 E0) U I1 ha' fun s2 I2 => ?_
  refine ClX.callwith_cm (X := cxS CX P w K mg base ps qual scope f cdv c A outer s0 H0 E0) I2 (ClX.base_none I1 (Nat.le_refl _)) U.fi (thn (ha.run pos _ s2 σ H _ I2 q) fun us s3 ⟨vs, H2, I3, rv, q2⟩ => ⟨⟨ClX.pin_at I3, I3.kIn⟩, ?_⟩) hst hpl
  exact ClX.run_cm (X := cxS CX P w K mg base ps qual scope f cdv c A outer s0 H0 E0) F hr hx I3 rv q2
/-- super().m() -/
theorem pes_super0 (hX : X = cxS CX P w K mg base ps qual scope f cdv c A outer s0 H0 E0) (T : SFr P K f c D name qual params body scope dV kV doc pm an cdv ct oc od osl ps) (hm : mg "super" = none) (U : SupF K mro D C g m) (F : FnR P w K mg base CX' k g sp) (hr : Room k X.A) (hx : Passes CX' X E)
    (ht : eval (.Call (.Attribute (.Call (.Name "super" p0) [] [] p1) m apos) [] [] pos) X.env = (do
      let ov ← attributeBase (.Call (.Name "super" p0) [] [] p1) m X.env (eval (.Call (.Name "super" p0) [] [] p1) X.env)
      standAt apos.atName
      let (f, first) ← holding [ov] (getMethod ov m pl)
      callWith pos f first (backTo pos (starEach [] X.env)) []) := by rfl) :
    PEs X body (.Call (.Attribute (.Call (.Name "super" p0) [] [] p1) m apos) [] [] pos) (tSup C sp E tNil) := by
  subst hX
  refine ⟨fun pins s σ H Q I h => ?_⟩
  obtain ⟨a, dx, fs, hσ, ha', q⟩ := h
  refine ks_wpAt_MethodCall (pl := pl) (sup_eval T hm U.nc I hσ ha' U.clD U.sub fun s1 I1 => ?_) ht
  refine sup_meth (X := cxS CX P w K mg base ps qual scope f cdv c A outer s0 H0 E0) U I1 ha' fun s2 I2 => ?_
  refine PySem.W.callWith_M0 (K := K) (g := g) (self := .ref a) ⟨ClX.pin_at I2, I2.kIn⟩ U.fi ?_
  exact ClX.run_cm (X := cxS CX P w K mg base ps qual scope f cdv c A outer s0 H0 E0) (us := []) (vs := []) F hr hx I2 .nil q
/-- super().m(e, .., k = v, ..) -/
def tSupK (C : Addr) (n j : Nat) (sp : Sp) (gV : List V → List V → List V) (E : XK) (t tk : TA) : TE := fun σ H Q => ∃ a dx fs, σ[0]? = some (some (.ref a)) ∧ H a = some (.ins C dx fs) ∧ t σ H fun vs H1 => tk σ H1 fun zs H2 => vs.length + 1 = n ∧ zs.length = j ∧ sp (gV (.ref a :: vs) zs) H2 Q E
theorem pes_superK {fd : FuncData} {qs ks : List Str} {n : Nat} {tk : TA} {kws : List Keyword} {gg : List Value → List Value → List Value} {gV : List V → List V → List V}
    (hX : X = cxS CX P w K mg base ps qual scope f cdv c A outer s0 H0 E0) (T : SFr P K f c D name qual params body scope dV kV doc pm an cdv ct oc od osl ps) (hm : mg "super" = none) (U : SupF K mro D C g m) (F : FnOk P w K mg base CX' k g fd qs sp) (hr : Room k X.A) (hb : KBn K fd qs n ks gg gV) (hx : Passes CX' X E) (ha : PA X (e :: es) t)
    (hkw : PK X kws tk) (hall : (backToKw pos (keywordEach kws X.env)).all (·.1.isSome) = true := by rfl) (hks : (backToKw pos (keywordEach kws X.env)).filterMap (·.1) = ks := by rfl)
    (hst : starEach (e :: es) X.env = (false, eval e X.env) :: starEach es X.env := by rfl) (hpl : ((backTo pos (starEach (e :: es) X.env)).any (·.1) || (backToKw pos (keywordEach kws X.env)).any (·.1.isNone)) = false := by rfl)
    (ht : eval (.Call (.Attribute (.Call (.Name "super" p0) [] [] p1) m apos) (e :: es) kws pos) X.env = (do
      let ov ← attributeBase (.Call (.Name "super" p0) [] [] p1) m X.env (eval (.Call (.Name "super" p0) [] [] p1) X.env)
      standAt apos.atName
      let (f, first) ← holding [ov] (getMethod ov m pl)
      callWith pos f first (backTo pos (starEach (e :: es) X.env)) (backToKw pos (keywordEach kws X.env))) := by rfl) :
    PEs X body (.Call (.Attribute (.Call (.Name "super" p0) [] [] p1) m apos) (e :: es) kws pos) (tSupK C n ks.length sp gV E t tk) := by
  subst hX
  refine ⟨fun pins s σ H Q I h => ?_⟩
  obtain ⟨a, dx, fs, hσ, ha', q⟩ := h
  rw [ht]
  refine PySem.wpAt_bind (PySem.wpAt_mono (sup_eval T hm U.nc I hσ ha' U.clD U.sub (Q := fun ov s1 => wpAny (model P w) (cxS CX P w K mg base ps qual scope f cdv c A outer s0 H0 E0).A (getMethod ov m pl) (fun fx s₂ => wpAny (model P w) (cxS CX P w K mg base ps qual scope f cdv c A outer s0 H0 E0).A (callWith pos fx.1 fx.2 (backTo pos (starEach (e :: es) (cxS CX P w K mg base ps qual scope f cdv c A outer s0 H0 E0).env)) (backToKw pos (keywordEach kws (cxS CX P w K mg base ps qual scope f cdv c A outer s0 H0 E0).env))) (EP (cxS CX P w K mg base ps qual scope f cdv c A outer s0 H0 E0) pins σ Q) (cxS CX P w K mg base ps qual scope f cdv c A outer s0 H0 E0).xe s₂) (cxS CX P w K mg base ps qual scope f cdv c A outer s0 H0 E0).xe s1) fun s1 I1 => ?_) (fun ov s₁ h₁ => PySem.wpAt_of_wpAny (wpAny_bind (wpAny_standAt (wpAny_bind (wpAny_holding (wpAny_mono h₁ (fun fx s₂ h₂ => h₂) fun _ _ x => x)))))) fun _ _ x => x)
  refine sup_meth (X := cxS CX P w K mg base ps qual scope f cdv c A outer s0 H0 E0) U I1 ha' fun s2 I2 => ?_
  refine PySem.W.callWith_of hpl (PySem.W.keeps_M (K := K) (q := s1.heap.objs.size) (f := g) (self := .ref a) U.fi) (PyProof.Rows.evalArgs_kw2 hall ?_ hst)
  refine thn (ha.run pos _ s2 σ H _ I2 q) fun us s3 ⟨vs, H2, I3, rv, q2⟩ => ?_
  refine thn (hkw.run pos _ s3 σ H2 _ I3 q2) fun ws s4 ⟨zs, H3, I4, rz, l1, l2, q3⟩ => ⟨⟨ClX.pin_at I4, I4.kIn⟩, ?_⟩
  rw [hks]
  have z : wpAny (model P w) (cxS CX P w K mg base ps qual scope f cdv c A outer s0 H0 E0).A (call (.ref s1.heap.objs.size) us (ks.zip ws)) (EP (cxS CX P w K mg base ps qual scope f cdv c A outer s0 H0 E0) ((s1.heap.objs.size, PySem.W.methodObj (.ref g) (.ref a)) :: pins) σ Q) (cxS CX P w K mg base ps qual scope f cdv c A outer s0 H0 E0).xe s4 := by
    refine wpAny_call (ks_codeAny_call_bound (ClX.pin_at I4) ?_)
    have r2 := hb.rel (Paired.cons (show RelV (.ref a) (.ref a) from rfl) rv) rz
    refine codeAny_mono (F.run (cxS CX P w K mg base ps qual scope f cdv c A outer s0 H0 E0).A (cxS CX P w K mg base ps qual scope f cdv c A outer s0 H0 E0).stack s4 H3 ⟨.ref a :: us, ks.zip ws⟩ (gg (.ref a :: us) ws) (gV (.ref a :: vs) zs) Q E hr I4.env0 (hb.to s4 (.ref a :: us) ws I4.kIn (by show us.length + 1 = n; rw [← rv.length]; exact l1) (rz.length.symm.trans l2)) r2 q3) fun r s' hq => ?_
    cases r with
    | error e => exact hx _ σ H3 s4 e s' I4 hq
    | ok fl =>
      cases fl with
      | ret u => exact I4.after hq
      | next => exact False.elim hq
      | brk => exact False.elim hq
      | cont => exact False.elim hq
  exact thn z fun _ _ y => ClX.unpinE y
end
end W1
end
section
/-! bodies with super() in them -/
namespace W1
open PySem PySem.Spec PyProof.Rows L2
theorem callWith_at {M : Model} {A : Around} {c : Code} {E : Value → Shared → Prop} {s : Shared} {f : Value} {first : List Value} {pos : Pos} {Q : Value → Shared → Prop} {P : Heap → Prop} {args : List (Bool × Sem Value)} (hplain : (args.any (·.1) || ([] : List (Option Str × Sem Value)).any (·.1.isNone)) = false)
    (hk : ∀ h, P h → ∃ k, (k = Keeper.frame ∨ k = Keeper.machine ∨ k = Keeper.boundFrame) ∧ PySem.W.Looks M h (keeperOf f) k)
    (h : PySem.wpAt M A c (evalArgs f true args []) (fun a s₁ => P s₁.heap ∧ wpAny M A (call f (first ++ a.pos) a.kw) Q E s₁) E s) : PySem.wpAt M A c (callWith pos f first args []) Q E s := by
  unfold callWith
  refine PySem.wpAt_bind (ks_wpAt_holding (PySem.wpAt_mono h (fun a s₁ h₁ => PySem.wpAt_of_wpAny (wpAny_bind (wpAny_standAt ?_))) fun _ _ x => x))
  obtain ⟨k, hk', L⟩ := hk _ h₁.1
  simp only [hplain]
  refine wpAny_bind (L.here ?_)
  have tail : ∀ {t : Sem Value}, wpAny M A t Q E s₁ → wpAny M A (t >>= fun r => holding [r] point >>= fun _ => pure r) Q E s₁ :=
    fun ht => wpAny_bind (wpAny_mono ht (fun r s₂ hr => wpAny_bind (wpAny_holding (wpAny_point (wpAny_pure hr)))) fun _ _ x => x)
  have marked (mk : Value) : wpAny M A (callMarked mk f (first ++ a.pos) a.kw) Q E s₁ := by unfold callMarked; exact Calls.wpAny_keep h₁.2
  rcases hk' with rfl | rfl | rfl <;> dsimp only <;> first | exact tail h₁.2 | (split <;> first | exact tail h₁.2 | exact tail (marked _))
/-- o.m(a, b), b at the code -/
def tMeth2 (C : Addr) (m : Str) (sp : Sp) (E : XK) (to ta tb : TE) : TE := fun σ H Q => to σ H fun x H1 => ∃ a dx fs, x = .ref a ∧ H1 a = some (.ins C dx fs) ∧ fs.lookup m = none ∧ ta σ H1 fun v H2 => tb σ H2 fun u H3 => sp [x, v, u] H3 Q E
section
variable {X : Cx} {CX : CXT} {C f : Addr} {m : Str} {k : Nat} {fd : FuncData} {qs : List Str} {sp : Sp} {E : XK} {body : List Stmt} {o e1 e2 : Expr} {apos pos : Pos} {to ta tb : TE} {pl : Sem Bool}
theorem pes_meth2 (ho : PE X o to) (c : Cls X.K C) (hm : Meth X.K C m f) (F : FnOk X.prog X.w X.K X.mg X.base CX k f fd qs sp) (hr : Room k X.A) (hb : Binds X.K fd qs []) (hx : Passes CX X E) (h1 : PE X e1 ta) (h2 : PEs X body e2 tb)
    (hst : backTo pos (starEach [e1, e2] X.env) = [(false, eval e1 X.env), (false, eval e2 X.env)] := by rfl)
    (ht : eval (.Call (.Attribute o m apos) [e1, e2] [] pos) X.env = (do
      let ov ← eval o X.env
      standAt apos.atName
      let (f, first) ← holding [ov] (getMethod ov m pl)
      callWith pos f first (backTo pos (starEach [e1, e2] X.env)) []) := by rfl) : PEs X body (.Call (.Attribute o m apos) [e1, e2] [] pos) (tMeth2 C m sp E to ta tb) := by
  refine ⟨fun pins s σ H Q I h => ?_⟩
  rw [ht]
  refine PySem.wpAt_bind (PySem.wpAt_of_wpAny (thn (ho.run pins s σ H _ I h) fun u s1 ⟨x, H1, I1, rx, a, dx, fs, ex, ea, l, q⟩ => PySem.wpAt_bind (PySem.wpAt_of_wpAny (wpAny_standAt ?_))))
  subst ex
  obtain rfl : u = Value.ref a := rx
  refine PySem.wpAt_bind (PySem.wpAt_of_wpAny (wpAny_holding (getmeth_ok I1 ea c hm l ?_)))
  rw [hst]
  refine callWith_at (P := fun h => X.K.In h) rfl (PySem.W.keeps_K hm.kp) ?_
  unfold evalArgs
  show PySem.wpAt _ _ _ (spliced [(false, eval e1 X.env), (false, eval e2 X.env)] >>= _) _ _ _
  refine PySem.wpAt_bind ?_
  show PySem.wpAt _ _ _ (eval e1 X.env >>= _) _ _ _
  refine PySem.wpAt_bind (PySem.wpAt_of_wpAny (thn (h1.run pins s1 σ H1 _ I1 q) fun v1 s2 ⟨y, H2, I2, ry, q2⟩ => ?_))
  refine PySem.wpAt_bind (PySem.wpAt_of_wpAny (wpAny_pure ?_))
  refine PySem.wpAt_bind (ks_wpAt_holding ?_)
  show PySem.wpAt _ _ _ (eval e2 X.env >>= _) _ _ _
  refine PySem.wpAt_bind (PySem.wpAt_mono (h2.run pins s2 σ H2 _ I2 q2) (fun v2 s3 ⟨z, H3, I3, rz, q3⟩ => ?_) fun _ _ x => x)
  refine PySem.wpAt_bind (PySem.wpAt_of_wpAny (wpAny_pure ?_))
  refine PySem.wpAt_bind (ks_wpAt_holding ?_)
  refine PySem.wpAt_of_wpAny (wpAny_pure (PySem.wpAt_of_wpAny (wpAny_pure (PySem.wpAt_of_wpAny (wpAny_pure (PySem.wpAt_bind (PySem.wpAt_of_wpAny (wpAny_pure ?_))))))))
  show PySem.wpAt _ _ _ (holding _ _) _ _ _
  refine ks_wpAt_holding ?_
  refine PySem.wpAt_of_wpAny (wpAny_bind (wpAny_pure (wpAny_bind (wpAny_pure (wpAny_pure ⟨I3.kIn, ?_⟩)))))
  exact run_fn (us := [.ref a, v1, v2]) (vs := [.ref a, y, z]) F hr hb (.nil) hx I3 (.cons rfl (.cons ry (.cons rz .nil))) q3
/-- return e -/
theorem body_ret {e : Expr} {te : TE} {vs : List V} {H : Hp} {Q : VK} (he : PEs X [.Return (some e) pos] e te) (h : te (vs.map some) H Q) : BodyS X [.Return (some e) pos] vs H Q := fun s1 I => by
  refine ks_wpAt_execs_cons (ks_wpAt_Return_some (PySem.wpAt_mono (he.run [] s1 _ H _ I h) (fun v s2 ⟨x, H2, I2, r, q⟩ => ?_) fun _ _ x => x))
  exact ⟨x, _, H2, I2, r, q⟩
/-- e, then the rest -/
theorem body_expr {e : Expr} {te : TE} {ts : TS} {rest : List Stmt} {vs : List V} {H : Hp} {Q : VK} (he : PEs X (.Expr e pos :: rest) e te) (hr : PSs X rest ts)
    (h : te (vs.map some) H fun _ H1 => ts { nx := fun _ H' => Q .non H', rt := Q } (vs.map some) H1) (hs : swapsWith e none pos.line X.env = pure false := by rfl) : BodyS X (.Expr e pos :: rest) vs H Q := fun s1 I => by
  refine ks_wpAt_execs_cons (ks_wpAt_Expr_any (PySem.wpAt_mono (he.run [] s1 _ H _ I h) (fun v s2 ⟨x, H2, I2, r, q⟩ => ?_) fun _ _ x => x) (hi := I.quiet) (hs := hs))
  exact PySem.wpAt_of_wpAny (hr.run [] s2 _ H2 _ I2 q)
end
end W1
end
section
/-! instances: attribute targets, a property set, own len, str, [], ==; methods with keywords -/
namespace W1
open PySem PySem.Spec PyProof.Rows L2
section
variable {X : Cx} {CX : CXT} {C p g : Addr} {f m : Str} {n : Nat} {sp : Sp} {E : XK} {o e : Expr} {ta tv : TE} {pos pos' : Pos}
/-- o.f as a target -/
def gFld (K : PySem.W.Frag) (f : Str) (ta : TE) : TG := fun v σ H Q => ta σ H fun x H1 => ∃ a C dx fs, x = .ref a ∧ H1 a = some (.ins C dx fs) ∧ Cls K C ∧ NoAttr K C f ∧ fs.length < 1000 ∧ Q σ (upd H1 a (.ins C dx (putF f v fs)))
theorem pg_fld (ha : PE X o ta) : PG X (.Attribute o f pos) (gFld X.K f ta) := by
  refine ⟨fun pins s σ H v u Q I r h => ?_⟩
  rw [assign_Attribute]
  refine wpAny_bind (wpAny_holding (thn (ha.run pins s σ H _ I h) fun ov s2 ⟨x, H2, I2, rx, a, C, dx, fs, ex, ea, c, nA, l, q2⟩ => wpAny_bind (wpAny_standAt ?_)))
  subst ex
  obtain rfl : ov = Value.ref a := rx
  refine wpAny_bind (wpAny_holding (setattr_ok I2 ea c nA l r fun s3 I3 => ?_))
  exact wpAny_release' ⟨σ, _, I3, q2⟩
/-- the class has the name as a property at p whose setter is the def at g -/
structure SetOf (K : PySem.W.Frag) (C : Addr) (f : Str) (p g : Addr) : Prop where
  taker : PySem.W.takerIn K C f = some (some (.ref p))
  ty : PySem.W.typeIn K (.ref p) = some (.type "property")
  rc : ∃ a rest, PySem.W.recIn K p "property" = some (a :: .ref g :: rest)
/-- o.f = e, f a property -/
def tSetProp (C : Addr) (sp : Sp) (E : XK) (ta tv : TE) : TS := fun D σ H => tv σ H fun v H1 => ta σ H1 fun x H2 => ∃ a dx fs, x = .ref a ∧ H2 a = some (.ins C dx fs) ∧ sp [.ref a, v] H2 (fun _ H' => D.nx σ H') E
theorem ps_setprop {value : Expr} (ha : PE X o ta) (hv : PE X value tv) (c : Cls X.K C) (P : SetOf X.K C f p g) (F : FnR X.prog X.w X.K X.mg X.base CX n g sp) (hr : Room (n + 2) X.A) (hx : Passes CX X E) (hs : swapsWith value (some (.Attribute o f pos')) pos.line X.env = pure false) :
    PS X (.Assign [.Attribute o f pos'] value pos) (tSetProp C sp E ta tv) := by
  refine ⟨fun pins s σ H D I h => ?_⟩
  refine plainObj_wpAny_Assign_Attribute (thn (hv.run pins s σ H _ I h) fun u s1 ⟨y, H1, I1, ry, q⟩ => thn (ha.run pins s1 σ H1 _ I1 q) fun ov s2 ⟨x, H2, I2, rx, a, dx, fs, ex, ea, q2⟩ => ?_) hs
  subst ex
  obtain rfl : ov = Value.ref a := rx
  obtain ⟨mA, O, _, _, _, _⟩ := ins_get I2.hok ea
  obtain ⟨od, J, _⟩ := O.look
  obtain ⟨pa, rest, hrec⟩ := P.rc
  have I3 := I2.tok (s2.toks + 1)
  have hr2 : Room n X.A.in1.in1 := (show Room (n + 1) X.A.in1 from Room.in1 hr).in1
  refine PySem.W.set_plain I2.kIn J c.sa (PySem.W.osa_descr (s := { s2 with toks := s2.toks + 1 }) PySem.W.KF.slot_pset I3.kIn J c.po P.taker P.ty (PySem.W.prop_set (s := { s2 with toks := s2.toks + 1 }) I3.kIn hrec ?_))
  refine codeAny_mono (SlX.run_at (Q := fun _ H' => D.nx σ H') (us := [.ref a, u]) (ws := [.ref a, y]) F hr2 I3.env0.in1.in1 hx I3 (.cons rfl (.cons ry .nil)) q2) fun r s' hq => ?_
  cases r with
  | error er => exact hq
  | ok fl =>
    cases fl with
    | ret w' =>
      obtain ⟨v, H', I', _, q3⟩ := hq
      exact ⟨σ, H', I', q3⟩
    | next => exact hq
    | brk => exact hq
    | cont => exact hq
/-- len(o), o an instance whose class has an own __len__ -/
def rLenO (C : Addr) (sp : Sp) (E : XK) : List V → Hp → VK → Prop := fun xs H Q => ∃ a dx fs, xs = [V.ref a] ∧ H a = some (.ins C dx fs) ∧ sp [.ref a] H (fun z H' => ∃ i, z = .int i ∧ 0 ≤ i ∧ i < 2 ^ 63 ∧ Q z H') E
theorem call_lenO (hs : PySem.W.findIn X.K (.ref C) "__len__" = some (some (.ref g))) (hf : PySem.W.isFn X.K (.ref g) = true) (F : FnR X.prog X.w X.K X.mg X.base CX n g sp) (hr : Room (n + 1) X.A) (hx : Passes CX X E) : CallR X (.builtin "len") (rLenO C sp E) := by
  intro pins s σ H xs us Q I r h
  obtain ⟨a, dx, fs, rfl, ha, q⟩ := h
  obtain ⟨u, rfl, ru⟩ := r.one
  cases (show u = Value.ref a from ru)
  obtain ⟨mA, O, _, _, _, _⟩ := ins_get I.hok ha
  obtain ⟨od, J, _⟩ := O.look
  obtain ⟨m, hF⟩ := I.fr
  refine PySem.W.len_K hF I.ok.mod.kin J hs hf (wpAny_mono (wpAny_call (SlX.run_at (us := [.ref a]) (ws := [.ref a]) F hr.in1 I.env0.in1 hx I (.cons rfl .nil) q)) (fun w' s' z => ?_) fun _ _ x => x)
  obtain ⟨z', H', I', rz, i, ei, h0, h1, qz⟩ := z
  subst ei
  obtain ⟨t, e⟩ := (show ∃ t, w' = Value.int i t from rz)
  cases e
  exact ⟨⟨h0, h1⟩, .int i, H', I'.tok _, ⟨_, rfl⟩, qz⟩
/-- str(o), an own __str__ -/
def rStrO (C : Addr) (sp : Sp) (E : XK) : List V → Hp → VK → Prop := fun xs H Q => ∃ a dx fs, xs = [V.ref a] ∧ H a = some (.ins C dx fs) ∧ sp [.ref a] H (fun z H' => ∃ x, z = .str x ∧ Q z H') E
theorem call_strO (hs : PySem.W.findIn X.K (.ref C) "__str__" = some (some (.ref g))) (hf : PySem.W.isFn X.K (.ref g) = true) (F : FnR X.prog X.w X.K X.mg X.base CX n g sp) (hr : Room (n + 2) X.A) (hu : X.A.in1.in1.units < cLine) (hx : Passes CX X E) : CallR X (.type "str") (rStrO C sp E) := by
  intro pins s σ H xs us Q I r h
  obtain ⟨a, dx, fs, rfl, ha, q⟩ := h
  obtain ⟨u, rfl, ru⟩ := r.one
  cases (show u = Value.ref a from ru)
  obtain ⟨mA, O, _, _, _, _⟩ := ins_get I.hok ha
  obtain ⟨od, J, _⟩ := O.look
  have hr2 : Room n X.A.in1.in1 := (show Room (n + 1) X.A.in1 from Room.in1 hr).in1
  refine PySem.W.kso_call hu I.kIn J hs hf (wpAny_mono (wpAny_call (SlX.run_at (us := [.ref a]) (ws := [.ref a]) F hr2 I.env0.in1.in1 hx I (.cons rfl .nil) q)) (fun w' s' z => ?_) fun _ _ x => x)
  obtain ⟨z', H', I', rz, y, ei, qz⟩ := z
  subst ei
  obtain ⟨t, e⟩ := (show ∃ t, w' = Value.str y t from rz)
  cases e
  exact ⟨.str y, H', I', ⟨_, rfl⟩, qz⟩
/-- o[i], an own __getitem__ -/
def tIxO (C : Addr) (sp : Sp) (E : XK) (ta ti : TE) : TE := fun σ H Q => ta σ H fun x H1 => ti σ H1 fun y H2 => ∃ a dx fs, x = .ref a ∧ H2 a = some (.ins C dx fs) ∧ sp [.ref a, y] H2 Q E
theorem pe_ixO {i : Expr} {ti : TE} (ha : PE X o ta) (hi : PE X i ti) (hs : PySem.W.findIn X.K (.ref C) "__getitem__" = some (some (.ref g))) (hf : PySem.W.fnIn X.K g = true) (hfn : PySem.W.isFn X.K (.ref g) = true) (F : FnR X.prog X.w X.K X.mg X.base CX n g sp) (hr : Room (n + 1) X.A) (hx : Passes CX X E)
    (hsl : ∀ (x : Addr) (v : Value), subscripted i true (.ref x) v = runValue (.builtin "lifetime.subscript" ⟨[.ref x, v], []⟩) := by intro _ _; with_unfolding_all rfl) : PE X (.Subscript o i pos) (tIxO C sp E ta ti) := by
  refine ⟨fun pins s σ H Q I h => ?_⟩
  refine Subscript_ (thn (ha.run pins s σ H _ I h) fun v s1 ⟨x, H1, I1, r1, q1⟩ => thn (hi.run pins s1 σ H1 _ I1 q1) fun w' s2 ⟨y, H2, I2, r2, a, dx, fs, ex, ea, q⟩ => ?_)
  subst ex
  obtain rfl : v = Value.ref a := r1
  obtain ⟨mA, O, _, _, _, _⟩ := ins_get I2.hok ea
  obtain ⟨od, J, _⟩ := O.look
  obtain ⟨m, hF⟩ := I2.fr
  refine PySem.W.sub_K hF I2.ok.mod.kin J hs hf hfn (wpAny_mono (wpAny_call (SlX.run_at (us := [.ref a, w']) (ws := [.ref a, y]) F hr.in1 I2.env0.in1 hx I2 (.cons rfl (.cons r2 .nil)) q)) (fun w' s' z => ?_) fun _ _ x => x) (hsl a w')
  exact z
/-- x op y, own, y an instance too -/
def rCmpO (K : PySem.W.Frag) (C : Addr) (sp : Sp) (E : XK) : R2 := fun x y H Q => ∃ a dx fs b C' dy gs, x = .ref a ∧ y = .ref b ∧ H a = some (.ins C dx fs) ∧ H b = some (.ins C' dy gs) ∧ PySem.W.notFirst K C (.ref C') = true ∧ sp [x, y] H Q E
theorem op_cmpO {op : CmpOp} (hop : ∀ a b, compareOp op a b = richCompare op a b) (hs : PySem.W.findIn X.K (.ref C) (cmpInfo op).2.1 = some (some (.ref g))) (hf : PySem.W.isFn X.K (.ref g) = true) (F : FnR X.prog X.w X.K X.mg X.base CX n g sp)
    (hr : Room n X.A) (hx : Passes CX X E) : OpR X (compareOp op) (rCmpO X.K C sp E) := by
  intro pins s σ H x y v u Q I rx ry h
  obtain ⟨a, dx, fs, b, C', dy, gs, rfl, rfl, ha, hb, hn, q⟩ := h
  cases (show v = Value.ref a from rx)
  cases (show u = Value.ref b from ry)
  obtain ⟨mA, O, _, _, _, _⟩ := ins_get I.hok ha
  obtain ⟨od, J, _⟩ := O.look
  obtain ⟨mA', O', _, _, _, _⟩ := ins_get I.hok hb
  obtain ⟨od', J', _⟩ := O'.look
  obtain ⟨m, hF⟩ := I.fr
  rw [hop]
  refine PySem.W.cmp_K (op := op) (tb := .ref C') hr.units0 hF I.ok.mod.kin J J'.type hn hs hf ?_
  refine wpAny_mono (wpAny_call (run_fnR (us := [.ref a, .ref b]) (vs := [.ref a, .ref b]) F hr hx I (.cons rfl (.cons rfl .nil)) q)) (fun w' s' z => ?_) fun _ _ x => x
  obtain ⟨z', H', I', rz, qz⟩ := z
  exact SlX.cmpback rz ⟨z', H', I', rz, qz⟩
/-- o.m(e, .., k = v, ..) -/
def tMethN (C : Addr) (m : Str) (n j : Nat) (sp : Sp) (gV : List V → List V → List V) (E : XK) (ta : TE) (t tk : TA) : TE := fun σ H Q => ta σ H fun x H0 => ∃ a dx fs, x = .ref a ∧ H0 a = some (.ins C dx fs) ∧ fs.lookup m = none ∧ t σ H0 fun vs H1 => tk σ H1 fun zs H2 => vs.length + 1 = n ∧ zs.length = j ∧ sp (gV (.ref a :: vs) zs) H2 Q E
theorem pe_methN {k : Nat} {fd : FuncData} {qs ks : List Str} {es : List Expr} {kws : List Keyword} {t tk : TA} {gg : List Value → List Value → List Value} {gV : List V → List V → List V} {pl : Sem Bool} {apos : Pos} (he : PE X o ta) (c : Cls X.K C) (hm : Meth X.K C m g) (F : FnOk X.prog X.w X.K X.mg X.base CX k g fd qs sp) (hr : Room k X.A) (hb : KBn X.K fd qs n ks gg gV) (hx : Passes CX X E)
    (ha : PA X (e :: es) t) (hkw : PK X kws tk) (hall : (backToKw pos (keywordEach kws X.env)).all (·.1.isSome) = true := by rfl) (hks : (backToKw pos (keywordEach kws X.env)).filterMap (·.1) = ks := by rfl)
    (hst : starEach (e :: es) X.env = (false, eval e X.env) :: starEach es X.env := by rfl) (hpl : ((backTo pos (starEach (e :: es) X.env)).any (·.1) || (backToKw pos (keywordEach kws X.env)).any (·.1.isNone)) = false := by rfl)
    (ht : eval (.Call (.Attribute o m apos) (e :: es) kws pos) X.env = (do
      let ov ← eval o X.env
      standAt apos.atName
      let (f, first) ← holding [ov] (getMethod ov m pl)
      callWith pos f first (backTo pos (starEach (e :: es) X.env)) (backToKw pos (keywordEach kws X.env))) := by rfl) :
    PE X (.Call (.Attribute o m apos) (e :: es) kws pos) (tMethN C m n ks.length sp gV E ta t tk) := by
  refine ⟨fun pins s σ H Q I h => ?_⟩
  refine PySem.W.methodCall_KW (pl := pl) (thn (he.run pins s σ H _ I h) fun u s1 ⟨x, H1, I1, rx, a, dx, fs, ex, ea, l, q⟩ => ?_) ht
  subst ex
  obtain rfl : u = Value.ref a := rx
  refine getmeth_ok I1 ea c hm l ?_
  refine PySem.W.callWith_KW (first := [.ref a]) (h₀ := X.base) I.ok.mod.kin hm.kp hall (thn (ha.run pos pins s1 σ H1 _ I1 q) fun us s2 ⟨vs, H2, I2, r, q2⟩ => ?_) hpl hst
  refine thn (hkw.run pos pins s2 σ H2 _ I2 q2) fun ws s3 ⟨zs, H3, I3, rz, l1, l2, q3⟩ => ⟨I3.kIn, ?_⟩
  rw [hks]
  exact run_fnN (us := .ref a :: us) (vs := .ref a :: vs) F hr hb hx I3 (.cons rfl r) rz l1 l2 q3
end
end W1
end
section
/-! name, *rest = list or tuple -/
namespace WT
open PySem PySem.Spec PySem.W PySem.Calls PyProof.Rows
section
variable {prog : Program} {w : World} {A : Around} {E : Value → Shared → Prop} {s : Shared}
theorem newL {hp : Heap} {xs : List Value} {Q : Value → Shared → Prop} {g : Array GenState} {d : Drawn} {t : Nat} {os : OsState} (hz : xs.length ≤ sizeLine) (h : Q (.ref hp.objs.size) ⟨hp.push { cls := .type "list", data := .seq xs.toArray }, g, d, t, os⟩) :
    wpAny (model prog w) A (newList xs) Q E ⟨hp, g, d, t, os⟩ := by
  unfold newList
  exact wpAny_newObj_type h (by show xs.toArray.size ≤ sizeLine; simpa using hz)
theorem star_L {l : Addr} {x : Value} {xs : List Value} {Q : List Value → Shared → Prop} (hl : s.heap.IsList l (x :: xs).toArray) (hh : A.handled = none) (hz : (x :: xs).length ≤ 16384)
    (h : ∀ (h₂ : Heap) tk, (∀ b o, s.heap.get? b = some o → h₂.get? b = some o) → Q [x, .ref h₂.objs.size] { s with heap := h₂.push { cls := .type "list", data := .seq xs.toArray }, toks := tk }) : wpAny (model prog w) A (unpackItems (.ref l) 2 (some 1)) Q E s := by
  have hlt : l ≠ s.heap.objs.size := by obtain ⟨o, ho, _⟩ := hl; exact Nat.ne_of_lt (Heap.lt_size ho)
  have hll : l < s.heap.objs.size := by obtain ⟨o, ho, _⟩ := hl; exact Heap.lt_size ho
  have hsz : (x :: xs).toArray.size = xs.length + 1 := by simp
  have hz' : xs.length + 1 ≤ 16384 := by simpa using hz
  unfold unpackItems
  refine wpAny_bind ?_
  unfold notIterableAtAll
  refine wpAny_bind (wpAny_specialOf hl.typeIs slot_list_iter.lookup ?_)
  refine wpAny_pure ?_
  simp only [Bool.false_eq_true, if_false]
  refine wpAny_bind (wpAny_holding (wpAny_pyIter_list hl ?_))
  refine wpAny_bind (wpAny_holding (kun_draw hlt 1 0 _ _ ⟨_, Heap.get?_push_size _ rfl, rfl, rfl⟩ (hl.push _) (by rw [hsz]; omega) fun h₁ hit₁ hs₁ => ?_))
  have hl₁ : h₁.IsList l (x :: xs).toArray := (hl.push _).extBut hs₁.extBut hlt
  rw [Nat.zero_add] at hit₁
  have hit₁' := hit₁
  obtain ⟨oi, hoi, _⟩ := hit₁'
  have hl₁' := hl₁
  obtain ⟨ol, hol, _⟩ := hl₁'
  show wpAny _ _ (if ([x] : List Value).length < 1 then _ else _) _ _ _
  rw [if_neg (by show ¬ (1 < 1); omega)]
  refine wpAny_bind (wpAny_holding (kun_collect (s := { s with heap := h₁ }) (T := "list_iterator") (.inr (.inr (.inl rfl))) (Walks.list (A := A.in1) hh s.heap.objs.size l hlt (x :: xs).toArray) (fun j u st => st.1.typeIs) (k := 1) (by rw [hsz]; omega) ⟨hit₁, hl₁⟩ (Heap.lt_size hoi) (Heap.lt_size hol) (fun h₂ tk hk => ?_) (by rw [hsz, sizeLine_eq]; omega)))
  show wpAny _ _ (if xs.length < 2 - 1 - 1 then _ else _) _ _ _
  rw [if_neg (by omega)]
  show wpAny _ _ (newList (xs.take (xs.length - (2 - 1 - 1))) >>= fun d => pure ([x] ++ [d] ++ xs.drop (xs.length - (2 - 1 - 1)))) _ _ _
  have e0 : xs.length - (2 - 1 - 1) = xs.length := by omega
  rw [e0, List.take_length, List.drop_length]
  have he : ∀ b o, s.heap.get? b = some o → h₂.get? b = some o := fun b o e => hk b o (Nat.ne_of_lt (Heap.lt_size e)) (hs₁.extBut b o (Nat.ne_of_lt (Heap.lt_size e)) (Heap.get?_push_of_some _ e))
  exact wpAny_bind (newL (by rw [sizeLine_eq]; omega) (wpAny_pure (h _ tk he)))
theorem star_T {l : Addr} {x : Value} {xs : List Value} {Q : List Value → Shared → Prop} (hl : IsTup s.heap l (x :: xs).toArray) (hh : A.handled = none) (hz : (x :: xs).length ≤ 16384)
    (h : ∀ (h₂ : Heap) tk, (∀ b o, s.heap.get? b = some o → h₂.get? b = some o) → Q [x, .ref h₂.objs.size] { s with heap := h₂.push { cls := .type "list", data := .seq xs.toArray }, toks := tk }) : wpAny (model prog w) A (unpackItems (.ref l) 2 (some 1)) Q E s := by
  have hlt : l ≠ s.heap.objs.size := by obtain ⟨o, ho, _⟩ := hl; exact Nat.ne_of_lt (Heap.lt_size ho)
  have hll : l < s.heap.objs.size := by obtain ⟨o, ho, _⟩ := hl; exact Heap.lt_size ho
  have hsz : (x :: xs).toArray.size = xs.length + 1 := by simp
  have hz' : xs.length + 1 ≤ 16384 := by simpa using hz
  unfold unpackItems
  refine wpAny_bind ?_
  unfold notIterableAtAll
  refine wpAny_bind (wpAny_specialOf hl.typeIs slot_tuple_iter.lookup ?_)
  refine wpAny_pure ?_
  simp only [Bool.false_eq_true, if_false]
  refine wpAny_bind (wpAny_holding (iter_tuple hl ?_))
  refine wpAny_bind (wpAny_holding (draw_tuple hlt 1 0 _ _ ⟨_, Heap.get?_push_size _ rfl, rfl, rfl⟩ (hl.push _) (by rw [hsz]; omega) fun h₁ hit₁ hs₁ => ?_))
  have hl₁ : IsTup h₁ l (x :: xs).toArray := (hl.push _).extBut hs₁.extBut hlt
  rw [Nat.zero_add] at hit₁
  have hit₁' := hit₁
  obtain ⟨oi, hoi, _⟩ := hit₁'
  have hl₁' := hl₁
  obtain ⟨ol, hol, _⟩ := hl₁'
  show wpAny _ _ (if ([x] : List Value).length < 1 then _ else _) _ _ _
  rw [if_neg (by show ¬ (1 < 1); omega)]
  refine wpAny_bind (wpAny_holding (kun_collect (s := { s with heap := h₁ }) (T := "tuple_iterator") (.inr (.inr (.inr rfl))) (Walks.tuple (A := A.in1) hh s.heap.objs.size l hlt (x :: xs).toArray) (fun j u st => st.1.typeIs) (k := 1) (by rw [hsz]; omega) ⟨hit₁, hl₁⟩ (Heap.lt_size hoi) (Heap.lt_size hol) (fun h₂ tk hk => ?_) (by rw [hsz, sizeLine_eq]; omega)))
  show wpAny _ _ (if xs.length < 2 - 1 - 1 then _ else _) _ _ _
  rw [if_neg (by omega)]
  show wpAny _ _ (newList (xs.take (xs.length - (2 - 1 - 1))) >>= fun d => pure ([x] ++ [d] ++ xs.drop (xs.length - (2 - 1 - 1)))) _ _ _
  have e0 : xs.length - (2 - 1 - 1) = xs.length := by omega
  rw [e0, List.take_length, List.drop_length]
  have he : ∀ b o, s.heap.get? b = some o → h₂.get? b = some o := fun b o e => hk b o (Nat.ne_of_lt (Heap.lt_size e)) (hs₁.extBut b o (Nat.ne_of_lt (Heap.lt_size e)) (Heap.get?_push_of_some _ e))
  exact wpAny_bind (newL (by rw [sizeLine_eq]; omega) (wpAny_pure (h _ tk he)))
end
end WT

namespace W1
open PySem PySem.Spec PyProof.Rows L2
section
variable {X : Cx} {pos : Pos}
/-- (a, *b) = a list or a tuple: the rest a new list -/
def gStar (K : PySem.W.Frag) (t : TGs) : TG := fun v σ H Q => ∃ a x xs, v = .ref a ∧ (SqL K H a (x :: xs) ∨ SqT K H a (x :: xs)) ∧ xs.length ≤ 1000 ∧ ∀ p, H p = none → t [x, .ref p] σ (upd H p (.lst xs)) Q
theorem pg_star {es : List Expr} {k : Nat} {t : TGs} (hc : X.calm = true) (h : PGs X es t)
    (hn : (assignEach es X.env).length = 2 := by rfl) (hst : (assignEach es X.env).findIdx? (·.1) = some 1 := by rfl) : PG X (.Tuple es k pos) (gStar X.K t) := by
  refine ⟨fun pins s σ H v u Q I r hw => ?_⟩
  obtain ⟨a, x, xs, e1, hq, hl, hw⟩ := hw
  subst e1
  cases r
  rw [PyProof.Rows.assign_Tuple]
  refine wpAny_bind (wpAny_standAt ?_)
  unfold unpack
  rw [hn, hst]
  have fin : ∀ {y : Value} {ys : List Value} {h₂ : Heap} {tk : Nat}, Vals (x :: xs) (y :: ys) → (∀ b o, s.heap.get? b = some o → h₂.get? b = some o) →
      wpAny (model X.prog X.w) X.A (assignInOrder ((assignEach es X.env).map (·.2)) [y, .ref h₂.objs.size]) (fun _ s' => ∃ σ' H', Inv X pins σ' H' s' ∧ Q σ' H') X.xe { s with heap := h₂.push { cls := .type "list", data := .seq ys.toArray }, toks := tk } := fun {y ys h₂ tk} rv hk => by
    cases rv with
    | cons r1 r2 =>
      have I1 : Inv X pins σ H { s with heap := h₂, toks := tk } := I.kept hk
      have hz : xs.length ≤ sizeLine := by rw [sizeLine_eq]; omega
      have I2 : Inv X pins σ (upd H h₂.objs.size (.lst xs)) { s with heap := h₂.push { cls := .type "list", data := .seq ys.toArray }, toks := tk } :=
        I1.laid (t' := tk) (o := .lst xs) (fun b o e => Heap.get?_push_of_some _ e) (Nat.le_refl _) ⟨hz, ys, 0, r2, Heap.get?_push_size _ rfl⟩
      exact h.run pins _ σ _ [x, .ref h₂.objs.size] [y, .ref h₂.objs.size] Q I2 (.cons r1 (.cons rfl .nil)) (hw _ (I1.hok.fresh (Nat.le_refl _)))
  rcases hq with hq | hq
  · obtain ⟨its, rv, pl, hz⟩ := I.list hq
    cases its with
    | nil => cases rv
    | cons y ys =>
      have hlen := rv.length
      exact wpAny_bind (wpAny_holding (_root_.WT.star_L pl.isList (I.ok.hd hc) (by rw [← hlen, List.length_cons]; omega) fun h₂ tk hk => fin rv hk))
  · obtain ⟨its, rv, pl, hz⟩ := I.tuple hq
    cases its with
    | nil => cases rv
    | cons y ys =>
      have hlen := rv.length
      exact wpAny_bind (wpAny_holding (_root_.WT.star_T pl (I.ok.hd hc) (by rw [← hlen, List.length_cons]; omega) fun h₂ tk hk => fin rv hk))
/-- *b among targets -/
theorem pgs_starred {e : Expr} {t : TG} {p : Pos} (h1 : PG X e t) : PGs X [.Starred e p] (gCons t gNil) := by
  refine ⟨fun pins s σ H vs us Q I r h => ?_⟩
  obtain ⟨v, vr, e1, h⟩ := h
  subst e1
  cases r with
  | cons r rr =>
    show wpAny _ _ (assignInOrder (assign e X.env :: []) _) _ _ _
    refine assignInOrder_cons (thn (h1.run pins s σ H _ _ _ I r h) fun _ s1 ⟨σ1, H1, I1, e2, q1⟩ => ?_)
    subst e2
    cases rr
    exact assignInOrder_nil ⟨σ1, H1, I1, q1⟩
end
end W1
end
section
/-! list.count(True); repr of a text, of data where no repr runs; defs that are called there -/
namespace W1
open PySem PySem.Spec PyProof.Rows L2
def isTru : Value → Bool
  | .bool b => b
  | _ => false
section
variable {X : Cx}
theorem bools_at {s : Shared} {A : Around} : ∀ {bs : List Bool} {us : List Value}, Vals (bs.map V.bl) us → (∀ y ∈ us, SeqAt.EqAt A s y (.bool true) (isTru y)) ∧ us.countP isTru = bs.countP id
  | [], _, .nil => ⟨fun y hy => (nomatch hy), rfl⟩
  | b :: bs, _, .cons r t => by
    cases (show _ = Value.bool b from r)
    obtain ⟨h1, h2⟩ := bools_at (s := s) (A := A) t
    refine ⟨fun y hy => ?_, ?_⟩
    · rcases List.mem_cons.mp hy with e | e
      · subst e
        have z := eqAt_V (A := A) (s := s) (y := .bl b) (x := .bl true) (u := .bool b) (v := .bool true) rfl rfl rfl rfl
        have e : eqV (.bl b) (.bl true) = isTru (.bool b) := by
          show (b == true) = b
          cases b <;> rfl
        rw [e] at z
        exact z
      · exact h1 y e
    · rw [List.countP_cons, List.countP_cons, h2]
      rfl
def rCntB (K : PySem.W.Frag) : V → List V → Hp → VK → Prop := fun x xs H Q => ∃ (p : Addr) (bs : List Bool), x = .ref p ∧ xs = [.bl true] ∧ SqL K H p (bs.map V.bl) ∧ Q (.int (bs.countP id : Nat)) H
theorem mt_countB : MtR X "list.count" (rCntB X.K) := by
  intro pins s σ H x xs v us Q I rx rxs h
  obtain ⟨p, bs, rfl, rfl, hs, q⟩ := h
  cases rx
  obtain ⟨u, rfl, ru⟩ := rxs.one
  cases (show u = Value.bool true from ru)
  obtain ⟨its, rv, ⟨⟨cls, dd, data, sl⟩, n, ho, hc, hdn, hd⟩, hlen⟩ := I.list hs
  simp only at hc hd
  subst hc hd
  refine call_meets PySem.F.slot_list_count ⟨_, ho, rfl⟩ PySem.F.entry_list_count (PySem.F.args_list_count_2 _ _)
    (SeqAt.list_countAt p its.toArray n dd sl (.bool true) isTru) ⟨ho, fun y hy => (bools_at rv).1 y (by simpa using hy), ?_⟩
  have ec : its.toArray.toList.countP isTru = bs.countP id := (bools_at (s := s) (A := X.A) rv).2
  refine ⟨.int (bs.countP id : Nat), H, I.tok _, ⟨s.toks, ?_⟩, q⟩
  show Value.int ((its.toArray.toList.countP isTru : Nat) : Int) s.toks = Value.int ((bs.countP id : Nat) : Int) s.toks
  rw [ec]
/-- a plain text: short, of ASCII signs -/
def TxtOk (x : Str) : Prop := x.length ≤ 100000 ∧ ∀ c ∈ x.cps.toList, c < 128
theorem TxtOk.repr {x : Str} (h : TxtOk x) : (reprText x).length ≤ sizeLine := by
  have z := StrLaws.reprText_len x (fun c hc => Nat.lt_of_lt_of_le (h.2 c hc) (by decide))
  have := h.1
  rw [sizeLine_eq]
  omega
theorem call_reprS : CallR X (.builtin "repr") (fun xs H Q => ∃ x, xs = [.str x] ∧ TxtOk x ∧ Q (.str (reprText x)) H) := by
  intro pins s σ H xs us Q I r h
  obtain ⟨x, rfl, hx, q⟩ := h
  obtain ⟨u, rfl, t, rfl⟩ := vals1 r
  exact PySem.P.repr_of_str ⟨.str _, H, I.tok _, ⟨_, rfl⟩, q⟩ hx.repr
theorem call_reprD (hg : X.A.guards = some []) (hu : X.A.units + 50 < cLine) : CallR X (.builtin "repr") (fun xs H Q => ∃ (a : Addr) (d : PyData), xs = [.ref a] ∧ Dp X.K H (.ref a) d ∧ d.showable = true ∧ d.hasDict = false ∧ d.depth ≤ 40 ∧ d.shown.length ≤ sizeLine ∧ Q (.str d.shown) H) := by
  intro pins s σ H xs us Q I r h
  obtain ⟨a, d, rfl, hd, hs, hh, hz, hl, q⟩ := h
  obtain ⟨u, rfl, e⟩ := vals1 r
  cases (show u = Value.ref a from e)
  obtain ⟨as, rd⟩ := Dp.reads I d _ _ hd rfl
  exact repr_of_reads' rd hs (fun z => by rw [hh] at z; cases z) hg (by omega) (fun _ _ z => z) (fun h' u tk hk => ⟨.str _, H, I.kept hk, ⟨_, rfl⟩, q⟩) hl
end
/-- a promise where no repr runs -/
structure FnOkG (P : Program) (w : World) (K : PySem.W.Frag) (mg : Str → Option Value) (base : Heap) (CX : CXT) (k : Nat) (f : Addr) (fd : FuncData) (ps : List Str) (sp : Sp) : Prop where
  len : ∀ vs H Q E, sp vs H Q E → vs.length = ps.length
  run : ∀ (A : Around) (outer : List Env) (s : Shared) (H : Hp) (args : Args) (us : List Value) (vs : List V) (Q : VK) (E : XK), Room k A → A.guards = some [] → Env0 P w K mg base A outer s H → BindsTo s fd args (ps.zip us) → Vals vs us → sp vs H Q E →
    codeAny (model P w) A (.call (.ref f) args) (CR CX outer P w H s Q E) s
theorem deeper_guards {A : Around} {env : Env} (h : A.guards = some []) : (A.deeper env).guards = some [] := by
  first
    | exact h
    | simp [Around.deeper, h]
    | (unfold Around.deeper; exact h)
theorem fn_ofG {CX : CXT} {P : Program} {w : World} {K : PySem.W.Frag} {mg : Str → Option Value} {base : Heap} {k : Nat} {f : Addr} {name qual : Str} {params : Arguments} {body : List Stmt} {scope : Scope} {dV kV doc pm cdv ct oc : Value} {an od : Option Addr}
    {osl : Array (Option Value)} {N ps : List Str} {sp : Sp} (lk : K.lookup f = some ⟨oc, od, .func (PySem.W.fnOf name qual params body scope dV kV doc pm an cdv ct), osl⟩) (hcd : PySem.W.codeIn K cdv qual = true) (S : FnScope N ps scope)
    (len : ∀ vs H Q E, sp vs H Q E → vs.length = ps.length)
    (hbody : ∀ (A : Around) (outer : List Env) (s : Shared) (H : Hp) (vs : List V) (Q : VK) (E : XK), Room k (A.deeper (envOfC qual scope s.heap.objs.size f cdv)) → (A.deeper (envOfC qual scope s.heap.objs.size f cdv)).guards = some [] → sp vs H Q E →
      ∃ t, PSs (cxOf CX P w K mg base N qual scope f cdv A outer s H E) body t ∧ t { nx := fun _ H' => Q .non H', rt := Q } (start N vs) H) :
    FnOkG P w K mg base CX (k + 1) f (PySem.W.fnOf name qual params body scope dV kV doc pm an cdv ct) ps sp := by
  refine ⟨len, fun A outer s H args us vs Q E hr hgd e0 hb r hsp => ?_⟩
  have hl := len _ _ _ _ hsp
  exact LamX.run_ofS (k := k) lk hcd S hr e0 hb r hl fun hr' => hbody A outer s H vs Q E hr' (deeper_guards hgd) hsp
section
variable {X : Cx} {CX : CXT} {k : Nat} {f : Addr} {fd : FuncData} {ps : List Str} {sp : Sp} {E : XK} {x : Str} {p pos : Pos} {e : Expr} {es : List Expr} {t : TA}
theorem pe_callG (F : FnOkG X.prog X.w X.K X.mg X.base CX k f fd ps sp) (hr : Room k X.A) (hgd : X.A.guards = some []) (hg : Gl X x) (hm : X.mg x = some (.ref f)) (hk : PySem.W.keepIn X.K (.ref f) = true) (hb : Binds X.K fd ps []) (hx : Passes CX X E)
    (ha : PA X (e :: es) t) (hdb : (x == ("__debug__" : Str)) = false := by decide) (he : starEach (e :: es) X.env = (false, eval e X.env) :: starEach es X.env := by rfl) (hpl : (backTo pos (starEach es X.env)).any (·.1) = false := by rfl) :
    PE X (.Call (.Name x p) (e :: es) [] pos) (tCall sp [] E t) := by
  refine ⟨fun pins s σ H Q I h => ?_⟩
  refine wpAny_Call_Name_kw (ld_glob I hg hm ?_ hdb)
  refine PySem.W.callWith_K (h₀ := X.base) I.ok.mod.kin hk (thn (ha.run pos pins s σ H _ I h) fun us s1 ⟨vs, H1, I1, r, q⟩ => ⟨I1.kIn, ?_⟩) he hpl
  have q : sp vs H1 Q E := by
    have z : sp (vs ++ []) H1 Q E := q
    rw [List.append_nil] at z
    exact z
  have hl : us.length = ps.length := by rw [← r.length]; exact F.len _ _ _ _ q
  refine wpAny_call (codeAny_mono (F.run X.A X.stack s1 H1 ⟨[] ++ us, []⟩ us vs Q E hr hgd I1.env0 (by rw [List.nil_append]; have z := hb s1 us I1.kIn (by rw [List.append_nil]; exact hl); rw [List.append_nil] at z; exact z) r q) fun r s' hq => ?_)
  cases r with
  | error e => exact hx pins σ H1 s1 e s' I1 hq
  | ok fl =>
    cases fl with
    | ret u => exact I1.after hq
    | next => exact False.elim hq
    | brk => exact False.elim hq
    | cont => exact False.elim hq
end
end W1
end
section
/-! evaluation to data: an expression in a state, told by what it gives -/
namespace D1
open PySem PySem.Spec PyProof.Rows L2 Evl
def WpX (X : Cx) (e : Expr) (σ : L2.St) (H : Hp) (Q : VK) : Prop := ∀ pins s, Inv X pins σ H s → wpAny (model X.prog X.w) X.A (eval e X.env) (EP X pins σ Q) X.xe s
def WtX (X : Cx) (e : Expr) (σ : L2.St) (H : Hp) (Q : Bool → Hp → Prop) : Prop := ∀ pins s, Inv X pins σ H s → wpAny (model X.prog X.w) X.A (isTrue e X.env (eval e X.env)) (TP X pins σ Q) X.xe s
def WwX (X : Cx) (e : Expr) (σ : L2.St) (H : Hp) (Q : Bool → Hp → Prop) : Prop := ∀ wh pins s, Inv X pins σ H s → wpAny (model X.prog X.w) X.A (isTrue e X.env wh) (TP X pins σ Q) X.xe s
def WaX (X : Cx) (es : List Expr) (σ : L2.St) (H : Hp) (Q : List V → Hp → Prop) : Prop := ∀ pos pins s, Inv X pins σ H s → wpAny (model X.prog X.w) X.A (spliced (backTo pos (starEach es X.env))) (AP X pins σ Q) X.xe s
def WoX (X : Cx) (e : Option Expr) (σ : L2.St) (H : Hp) (Q : Option Int → Hp → Prop) : Prop := ∀ pins s, Inv X pins σ H s → wpAny (model X.prog X.w) X.A (evalPart e X.env) (fun u s' => ∃ o H', Inv X pins σ H' s' ∧ IsPart u o ∧ Q o H') X.xe s
section
variable {X : Cx} {e : Expr} {es : List Expr} {σ : L2.St} {H H' : Hp} {Q : VK}
theorem WpX.pe : PE X e (fun σ H Q => WpX X e σ H Q) := ⟨fun pins s _ _ _ I h => h pins s I⟩
theorem WtX.pt : PT X e (fun σ H Q => WtX X e σ H Q) := ⟨fun pins s _ _ _ I h => h pins s I⟩
theorem WwX.pw : PW X e (fun σ H Q => WwX X e σ H Q) := ⟨fun wh pins s _ _ _ I h => h wh pins s I⟩
theorem WaX.pa : PA X es (fun σ H Q => WaX X es σ H Q) := ⟨fun pos pins s _ _ _ I h => h pos pins s I⟩
theorem WoX.po {e : Option Expr} : PO X e (fun σ H Q => WoX X e σ H Q) := ⟨fun pins s _ _ _ I h => h pins s I⟩
theorem WpX.of {t : TE} (h : PE X e t) (q : t σ H Q) : WpX X e σ H Q := fun pins s I => h.run pins s σ H Q I q
theorem WtX.of {t : TT} {Q : Bool → Hp → Prop} (h : PT X e t) (q : t σ H Q) : WtX X e σ H Q := fun pins s I => h.run pins s σ H Q I q
theorem WwX.of {t : TT} {Q : Bool → Hp → Prop} (h : PW X e t) (q : t σ H Q) : WwX X e σ H Q := fun wh pins s I => h.run wh pins s σ H Q I q
theorem WaX.of {t : TA} {Q : List V → Hp → Prop} (h : PA X es t) (q : t σ H Q) : WaX X es σ H Q := fun pos pins s I => h.run pos pins s σ H Q I q
theorem WoX.of {e : Option Expr} {t : TO} {Q : Option Int → Hp → Prop} (h : PO X e t) (q : t σ H Q) : WoX X e σ H Q := fun pins s I => h.run pins s σ H Q I q
abbrev pp : PE X e (fun σ H Q => WpX X e σ H Q) := WpX.pe
abbrev tt : PT X e (fun σ H Q => WtX X e σ H Q) := WtX.pt
abbrev ww : PW X e (fun σ H Q => WwX X e σ H Q) := WwX.pw
abbrev aa : PA X es (fun σ H Q => WaX X es σ H Q) := WaX.pa
abbrev oo {e : Option Expr} : PO X e (fun σ H Q => WoX X e σ H Q) := WoX.po
theorem WpX.imp {Q' : VK} (h : WpX X e σ H Q) (k : ∀ v H', Q v H' → Q' v H') : WpX X e σ H Q' := fun pins s I => thn (h pins s I) fun _ _ ⟨v, H', I', r, q⟩ => ⟨v, H', I', r, k v H' q⟩
end
/-! ### data -/
mutual
theorem dp_ex {K : PySem.W.Frag} {H H' : Hp} (e : Ex H H') : ∀ {v : V} {d : PyData}, Dp K H v d → Dp K H' v d
  | _, _, .non => .non
  | _, _, .bl b => .bl b
  | _, _, .int i => .int i
  | _, _, .str x => .str x
  | _, _, .lst h a => .lst (ex_l e h) (dpa_ex e a)
  | _, _, .tup h a => .tup (ex_t e h) (dpa_ex e a)
theorem dpa_ex {K : PySem.W.Frag} {H H' : Hp} (e : Ex H H') : ∀ {vs : List V} {ds : List PyData}, DpAll K H vs ds → DpAll K H' vs ds
  | _, _, .nil => .nil
  | _, _, .cons h t => .cons (dp_ex e h) (dpa_ex e t)
end
section
variable {K : PySem.W.Frag} {H : Hp}
theorem dp_int {v : V} {i : Int} (h : Dp K H v (.int i)) : v = .int i := by cases h; rfl
theorem dp_bl {v : V} {i : Bool} (h : Dp K H v (.bool i)) : v = .bl i := by cases h; rfl
theorem dp_str {v : V} {i : Str} (h : Dp K H v (.str i)) : v = .str i := by cases h; rfl
theorem dp_non {v : V} (h : Dp K H v .none) : v = .non := by cases h; rfl
theorem dp_tup {v : V} {ds : List PyData} (h : Dp K H v (.tuple ds)) : ∃ a xs, v = .ref a ∧ SqT K H a xs ∧ DpAll K H xs ds := by cases h with | tup h a => exact ⟨_, _, rfl, h, a⟩
theorem dp_lst {v : V} {ds : List PyData} (h : Dp K H v (.list ds)) : ∃ a xs, v = .ref a ∧ SqL K H a xs ∧ DpAll K H xs ds := by cases h with | lst h a => exact ⟨_, _, rfl, h, a⟩
theorem dpa_length : ∀ {vs : List V} {ds : List PyData}, DpAll K H vs ds → vs.length = ds.length
  | _, _, .nil => rfl
  | _, _, .cons _ t => congrArg Nat.succ (dpa_length t)
theorem dpa_get : ∀ {vs : List V} {ds : List PyData} {i : Nat} {d : PyData}, DpAll K H vs ds → ds[i]? = some d → ∃ v, vs[i]? = some v ∧ Dp K H v d
  | _, _, _, _, .nil, e => by simp at e
  | _, _, 0, _, .cons h t, e => by simp at e; subst e; exact ⟨_, rfl, h⟩
  | _, _, i + 1, _, .cons _ t, e => by
    obtain ⟨v, a, b⟩ := dpa_get (i := i) t (by simpa using e)
    exact ⟨v, by simpa using a, b⟩
theorem dpa_getV : ∀ {vs : List V} {ds : List PyData} {i : Nat} {v : V}, DpAll K H vs ds → vs[i]? = some v → ∃ d, ds[i]? = some d ∧ Dp K H v d
  | _, _, _, _, .nil, e => by simp at e
  | _, _, 0, _, .cons h t, e => by simp at e; subst e; exact ⟨_, rfl, h⟩
  | _, _, i + 1, _, .cons _ t, e => by
    obtain ⟨v, a, b⟩ := dpa_getV (i := i) t (by simpa using e)
    exact ⟨v, by simpa using a, b⟩
theorem dpa_append : ∀ {vs ws : List V} {ds es : List PyData}, DpAll K H vs ds → DpAll K H ws es → DpAll K H (vs ++ ws) (ds ++ es)
  | _, _, _, _, .nil, s => s
  | _, _, _, _, .cons h t, s => .cons h (dpa_append t s)
theorem dpa_drop : ∀ {vs : List V} {ds : List PyData} (n : Nat), DpAll K H vs ds → DpAll K H (vs.drop n) (ds.drop n)
  | _, _, 0, r => r
  | _, _, _ + 1, .nil => .nil
  | _, _, n + 1, .cons _ t => dpa_drop n t
theorem dpa_take : ∀ {vs : List V} {ds : List PyData} (n : Nat), DpAll K H vs ds → DpAll K H (vs.take n) (ds.take n)
  | _, _, 0, _ => .nil
  | _, _, _ + 1, .nil => .nil
  | _, _, n + 1, .cons h t => .cons h (dpa_take n t)
theorem dpa_rev {vs : List V} {ds : List PyData} (h : DpAll K H vs ds) : DpAll K H vs.reverse ds.reverse := by
  induction vs generalizing ds with
  | nil => cases h; exact .nil
  | cons v vs ih =>
    cases h with
    | cons h t =>
      rw [List.reverse_cons, List.reverse_cons]
      exact dpa_append (ih t) (.cons h .nil)
theorem dpa_ints : ∀ {vs : List V} {ns : List Int}, DpAll K H vs (ns.map .int) → vs = ns.map V.int
  | _, [], .nil => rfl
  | _, n :: ns, .cons h t => by
    rw [List.map_cons, dp_int h, dpa_ints t]
theorem ints_dpa : ∀ (ns : List Int), DpAll K H (ns.map V.int) (ns.map .int)
  | [] => .nil
  | n :: ns => .cons (.int n) (ints_dpa ns)
theorem dpa_bools : ∀ {vs : List V} {ns : List Bool}, DpAll K H vs (ns.map .bool) → vs = ns.map V.bl
  | _, [], .nil => rfl
  | _, n :: ns, .cons h t => by
    rw [List.map_cons, dp_bl h, dpa_bools t]
theorem dpa_strs : ∀ {vs : List V} {ns : List Str}, DpAll K H vs (ns.map .str) → vs = ns.map V.str
  | _, [], .nil => rfl
  | _, n :: ns, .cons h t => by
    rw [List.map_cons, dp_str h, dpa_strs t]
theorem strs_dpa : ∀ (ns : List Str), DpAll K H (ns.map V.str) (ns.map .str)
  | [] => .nil
  | n :: ns => .cons (.str n) (strs_dpa ns)
end
/-! ### what an expression gives -/
structure EvP (X : Cx) (e : Expr) (σ : L2.St) (H : Hp) (Φ : V → Hp → Prop) : Prop where
  run : ∀ H1, Ex H H1 → ∀ Q : VK, (∀ v H2, Ex H1 H2 → Φ v H2 → Q v H2) → WpX X e σ H1 Q
abbrev EvD (X : Cx) (e : Expr) (σ : L2.St) (H : Hp) (d : PyData) : Prop := EvP X e σ H fun v H' => Dp X.K H' v d
/-- a new list, nobody else's -/
abbrev EvN (X : Cx) (e : Expr) (σ : L2.St) (H : Hp) (ds : List PyData) : Prop := EvP X e σ H fun v H' => ∃ a xs, v = .ref a ∧ H a = none ∧ H' a = some (.lst xs) ∧ DpAll X.K H' xs ds
structure EvB (X : Cx) (e : Expr) (σ : L2.St) (H : Hp) (b : Bool) : Prop where
  run : ∀ H1, Ex H H1 → ∀ Q : Bool → Hp → Prop, (∀ H2, Ex H1 H2 → Q b H2) → WtX X e σ H1 Q
structure EvW (X : Cx) (e : Expr) (σ : L2.St) (H : Hp) (b : Bool) : Prop where
  run : ∀ H1, Ex H H1 → ∀ Q : Bool → Hp → Prop, (∀ H2, Ex H1 H2 → Q b H2) → WwX X e σ H1 Q
structure EvA (X : Cx) (es : List Expr) (σ : L2.St) (H : Hp) (ds : List PyData) : Prop where
  run : ∀ H1, Ex H H1 → ∀ Q : List V → Hp → Prop, (∀ vs H2, Ex H1 H2 → DpAll X.K H2 vs ds → Q vs H2) → WaX X es σ H1 Q
structure EvO (X : Cx) (e : Option Expr) (σ : L2.St) (H : Hp) (o : Option Int) : Prop where
  run : ∀ H1, Ex H H1 → ∀ Q : Option Int → Hp → Prop, (∀ H2, Ex H1 H2 → Q o H2) → WoX X e σ H1 Q
section
variable {X : Cx} {e a b c : Expr} {es : List Expr} {σ : L2.St} {H H' : Hp} {Φ Ψ : V → Hp → Prop} {d d1 d2 d3 : PyData} {pos : Pos}
theorem EvP.mono (x : Ex H H') (h : EvP X e σ H Φ) : EvP X e σ H' Φ := ⟨fun H1 e1 Q q => h.run H1 (x.trans e1) Q q⟩
theorem EvB.mono {b : Bool} (x : Ex H H') (h : EvB X e σ H b) : EvB X e σ H' b := ⟨fun H1 e1 Q q => h.run H1 (x.trans e1) Q q⟩
theorem EvP.of {t : TE} (hp : PE X e t) (h : ∀ H1, Ex H H1 → ∀ Q : VK, (∀ v H2, Ex H1 H2 → Φ v H2 → Q v H2) → t σ H1 Q) : EvP X e σ H Φ := ⟨fun H1 e1 Q q => .of hp (h H1 e1 Q q)⟩
theorem EvB.of {t : TT} {b : Bool} (hp : PT X e t) (h : ∀ H1, Ex H H1 → ∀ Q : Bool → Hp → Prop, (∀ H2, Ex H1 H2 → Q b H2) → t σ H1 Q) : EvB X e σ H b := ⟨fun H1 e1 Q q => .of hp (h H1 e1 Q q)⟩
theorem EvW.of {t : TT} {b : Bool} (hp : PW X e t) (h : ∀ H1, Ex H H1 → ∀ Q : Bool → Hp → Prop, (∀ H2, Ex H1 H2 → Q b H2) → t σ H1 Q) : EvW X e σ H b := ⟨fun H1 e1 Q q => .of hp (h H1 e1 Q q)⟩
theorem EvW.tob {b : Bool} (h : EvW X e σ H b) : EvB X e σ H b := ⟨fun H1 e1 Q q pins s I => h.run H1 e1 Q q _ pins s I⟩
theorem EvD.is (h : EvD X e σ H d) (k : d = d1) : EvD X e σ H d1 := k ▸ h
theorem EvB.is {b b' : Bool} (h : EvB X e σ H b) (k : b = b') : EvB X e σ H b' := k ▸ h
/-- use of it: the rest goes on from any extension -/
theorem EvP.go {Q : VK} (h : EvP X e σ H Φ) (k : ∀ v H1, Ex H H1 → Φ v H1 → Q v H1) : WpX X e σ H Q := h.run H (Ex.refl H) Q k
theorem EvB.go {b : Bool} {Q : Bool → Hp → Prop} (h : EvB X e σ H b) (k : ∀ H1, Ex H H1 → Q b H1) : WtX X e σ H Q := h.run H (Ex.refl H) Q k
/-! names, constants -/
theorem d_var {x : Str} {v : V} (i : Nat) (hi : X.N[i]? = some x) (hv : Vis X.env.scope x) (hs : σ[i]? = some (some v)) (hd : Dp X.K H v d) (h1 : (x == ("__debug__" : Str)) = false := by decide) (h2 : (x == ("__classdict__" : Str)) = false := by decide) : EvD X (.Name x pos) σ H d :=
  .of (pe_var (i := i) hi hv h1 h2) fun H1 e1 Q q => ⟨v, hs, q v H1 (Ex.refl H1) (dp_ex e1 hd)⟩
theorem v_var {x : Str} {v : V} (i : Nat) (hi : X.N[i]? = some x) (hv : Vis X.env.scope x) (hs : σ[i]? = some (some v)) (h1 : (x == ("__debug__" : Str)) = false := by decide) (h2 : (x == ("__classdict__" : Str)) = false := by decide) : EvP X (.Name x pos) σ H fun u _ => u = v :=
  .of (pe_var (i := i) hi hv h1 h2) fun H1 e1 Q q => ⟨v, hs, q v H1 (Ex.refl H1) rfl⟩
theorem d_int {i : Int} {j : Nat} : EvD X (.Constant (.int i) j pos) σ H (.int i) := .of pe_int fun H1 _ Q q => q _ H1 (Ex.refl H1) (.int i)
theorem d_str {x : Str} {j : Nat} : EvD X (.Constant (.str x) j pos) σ H (.str x) := .of pe_str fun H1 _ Q q => q _ H1 (Ex.refl H1) (.str x)
theorem d_none {j : Nat} : EvD X (.Constant .none j pos) σ H .none := .of pe_non fun H1 _ Q q => q _ H1 (Ex.refl H1) .non
theorem d_bl {c : Bool} {j : Nat} : EvD X (.Constant (.bool c) j pos) σ H (.bool c) := .of pe_bl fun H1 _ Q q => q _ H1 (Ex.refl H1) (.bl c)
theorem d_glob {x : Str} {v : V} {u : Value} (hg : Gl X x) (hm : X.mg x = some u) (r : RelV v u) (hd : ∀ H, Dp X.K H v d) (h1 : (x == ("__debug__" : Str)) = false := by decide) : EvD X (.Name x pos) σ H d :=
  .of (pe_glob hg hm r h1) fun H1 _ Q q => q v H1 (Ex.refl H1) (hd H1)
/-! operators -/
theorem d_op {op : Operator} {r : R2} (ho : OpR X (binaryOp op) r) (ha : EvD X a σ H d1) (hb : EvD X b σ H d2)
    (hr : ∀ x y H2, Ex H H2 → Dp X.K H2 x d1 → Dp X.K H2 y d2 → ∀ Q : VK, (∀ v H3, Ex H2 H3 → Φ v H3 → Q v H3) → r x y H2 Q) : EvP X (.BinOp a op b pos) σ H Φ :=
  .of (pe_op ho pp pp) fun H1 e1 Q q => ha.run H1 e1 _ fun x H2 e2 hx => hb.run H2 (e1.trans e2) _ fun y H3 e3 hy => hr x y H3 (e1.trans (e2.trans e3)) (dp_ex e3 hx) hy Q fun v H4 e4 hv => q v H4 (e2.trans (e3.trans e4)) hv
theorem d_opI {op : Operator} {g : Int → Int → Int} {i j : Int} (ho : OpR X (binaryOp op) (rI0 fun i j => .int (g i j))) (ha : EvD X a σ H (.int i)) (hb : EvD X b σ H (.int j)) : EvD X (.BinOp a op b pos) σ H (.int (g i j)) :=
  d_op ho ha hb fun x y H2 _ hx hy Q q => by
    cases hx; cases hy
    exact ⟨i, j, rfl, rfl, q _ H2 (Ex.refl H2) (.int _)⟩
theorem d_add {i j : Int} (ha : EvD X a σ H (.int i)) (hb : EvD X b σ H (.int j)) : EvD X (.BinOp a .Add b pos) σ H (.int (i + j)) := d_opI (g := fun i j => i + j) op_add ha hb
theorem d_sub {i j : Int} (ha : EvD X a σ H (.int i)) (hb : EvD X b σ H (.int j)) : EvD X (.BinOp a .Sub b pos) σ H (.int (i - j)) := d_opI (g := fun i j => i - j) op_sub ha hb
theorem d_addS {i j : Str} (ha : EvD X a σ H (.str i)) (hb : EvD X b σ H (.str j)) (hl : i.length + j.length ≤ 1000000) : EvD X (.BinOp a .Add b pos) σ H (.str (i ++ j)) :=
  d_op op_add_str ha hb fun x y H2 _ hx hy Q q => by
    cases hx; cases hy
    exact ⟨i, j, rfl, rfl, by rw [sizeLine_eq]; omega, q _ H2 (Ex.refl H2) (.str _)⟩
/-! comparisons, as values and as tests -/
theorem d_cmp {op : CmpOp} {r : R2} (ho : OpR X (compareOp op) r) (ha : EvD X a σ H d1) (hb : EvD X b σ H d2) (hm : behindInMarks op b = false)
    (hr : ∀ x y H2, Ex H H2 → Dp X.K H2 x d1 → Dp X.K H2 y d2 → ∀ Q : VK, (∀ v H3, Ex H2 H3 → Φ v H3 → Q v H3) → r x y H2 Q) : EvP X (.Compare a [op] [b] pos) σ H Φ :=
  .of (pe_cmpR ho pp pp hm) fun H1 e1 Q q => ha.run H1 e1 _ fun x H2 e2 hx => hb.run H2 (e1.trans e2) _ fun y H3 e3 hy => hr x y H3 (e1.trans (e2.trans e3)) (dp_ex e3 hx) hy Q fun v H4 e4 hv => q v H4 (e2.trans (e3.trans e4)) hv
theorem b_cmp {op : CmpOp} {r : R2} {k : Bool} (ho : OpR X (compareOp op) r) (ha : EvD X a σ H d1) (hb : EvD X b σ H d2) (hm : behindInMarks op b = false)
    (hr : ∀ x y H2, Ex H H2 → Dp X.K H2 x d1 → Dp X.K H2 y d2 → ∀ Q : VK, (∀ H3, Ex H2 H3 → Q (.bl k) H3) → r x y H2 Q) : EvB X (.Compare a [op] [b] pos) σ H k :=
  .of (pt_cmpR ho pp pp hm) fun H1 e1 Q q => ha.run H1 e1 _ fun x H2 e2 hx => hb.run H2 (e1.trans e2) _ fun y H3 e3 hy => hr x y H3 (e1.trans (e2.trans e3)) (dp_ex e3 hx) hy _ fun H4 e4 => ⟨k, rfl, q H4 (e2.trans (e3.trans e4))⟩
theorem rI_use {g : Int → Int → Bool} {i j : Int} {x y : V} {K : PySem.W.Frag} (hx : Dp K H x (.int i)) (hy : Dp K H y (.int j)) {Q : VK} (q : Q (.bl (g i j)) H) : rI0 (fun i j => .bl (g i j)) x y H Q := by
  cases hx; cases hy
  exact ⟨i, j, rfl, rfl, q⟩
theorem b_lt {i j : Int} (ha : EvD X a σ H (.int i)) (hb : EvD X b σ H (.int j)) : EvB X (.Compare a [.Lt] [b] pos) σ H (decide (i < j)) := b_cmp op_lt ha hb (nomark _) fun _ _ H2 _ hx hy _ q => rI_use (g := fun i j => decide (i < j)) hx hy (q H2 (Ex.refl H2))
theorem b_le {i j : Int} (ha : EvD X a σ H (.int i)) (hb : EvD X b σ H (.int j)) : EvB X (.Compare a [.LtE] [b] pos) σ H (decide (i ≤ j)) := b_cmp op_le ha hb (nomark _) fun _ _ H2 _ hx hy _ q => rI_use (g := fun i j => decide (i ≤ j)) hx hy (q H2 (Ex.refl H2))
theorem b_gt {i j : Int} (ha : EvD X a σ H (.int i)) (hb : EvD X b σ H (.int j)) : EvB X (.Compare a [.Gt] [b] pos) σ H (decide (j < i)) := b_cmp op_gt ha hb (nomark _) fun _ _ H2 _ hx hy _ q => rI_use (g := fun i j => decide (j < i)) hx hy (q H2 (Ex.refl H2))
theorem b_ge {i j : Int} (ha : EvD X a σ H (.int i)) (hb : EvD X b σ H (.int j)) : EvB X (.Compare a [.GtE] [b] pos) σ H (decide (j ≤ i)) := b_cmp op_ge ha hb (nomark _) fun _ _ H2 _ hx hy _ q => rI_use (g := fun i j => decide (j ≤ i)) hx hy (q H2 (Ex.refl H2))
theorem d_le {i j : Int} (ha : EvD X a σ H (.int i)) (hb : EvD X b σ H (.int j)) : EvD X (.Compare a [.LtE] [b] pos) σ H (.bool (decide (i ≤ j))) := d_cmp op_le ha hb (nomark _) fun _ _ H2 _ hx hy _ q => rI_use (g := fun i j => decide (i ≤ j)) hx hy (q _ H2 (Ex.refl H2) (.bl _))
theorem d_lt {i j : Int} (ha : EvD X a σ H (.int i)) (hb : EvD X b σ H (.int j)) : EvD X (.Compare a [.Lt] [b] pos) σ H (.bool (decide (i < j))) := d_cmp op_lt ha hb (nomark _) fun _ _ H2 _ hx hy _ q => rI_use (g := fun i j => decide (i < j)) hx hy (q _ H2 (Ex.refl H2) (.bl _))
theorem d_gt {i j : Int} (ha : EvD X a σ H (.int i)) (hb : EvD X b σ H (.int j)) : EvD X (.Compare a [.Gt] [b] pos) σ H (.bool (decide (j < i))) := d_cmp op_gt ha hb (nomark _) fun _ _ H2 _ hx hy _ q => rI_use (g := fun i j => decide (j < i)) hx hy (q _ H2 (Ex.refl H2) (.bl _))
theorem d_ge {i j : Int} (ha : EvD X a σ H (.int i)) (hb : EvD X b σ H (.int j)) : EvD X (.Compare a [.GtE] [b] pos) σ H (.bool (decide (j ≤ i))) := d_cmp op_ge ha hb (nomark _) fun _ _ H2 _ hx hy _ q => rI_use (g := fun i j => decide (j ≤ i)) hx hy (q _ H2 (Ex.refl H2) (.bl _))
/-- == and != of any data -/
theorem b_eq (hu : X.A.units + 64 < cLine) (ha : EvD X a σ H d1) (hb : EvD X b σ H d2) (s1 : SeqAt.shaped d1 = true) (s2 : SeqAt.shaped d2 = true) : EvB X (.Compare a [.Eq] [b] pos) σ H (PyData.eqv d1 d2) := b_cmp (op_eqD hu) ha hb (nomark _) fun _ _ H2 _ hx hy _ q => ⟨d1, d2, hx, hy, s1, s2, q H2 (Ex.refl H2)⟩
theorem b_ne (hu : X.A.units + 64 < cLine) (ha : EvD X a σ H d1) (hb : EvD X b σ H d2) (s1 : SeqAt.shaped d1 = true) (s2 : SeqAt.shaped d2 = true) : EvB X (.Compare a [.NotEq] [b] pos) σ H (!PyData.eqv d1 d2) := b_cmp (op_neD hu) ha hb (nomark _) fun _ _ H2 _ hx hy _ q => ⟨d1, d2, hx, hy, s1, s2, q H2 (Ex.refl H2)⟩
theorem d_eq (hu : X.A.units + 64 < cLine) (ha : EvD X a σ H d1) (hb : EvD X b σ H d2) (s1 : SeqAt.shaped d1 = true) (s2 : SeqAt.shaped d2 = true) : EvD X (.Compare a [.Eq] [b] pos) σ H (.bool (PyData.eqv d1 d2)) := d_cmp (op_eqD hu) ha hb (nomark _) fun _ _ H2 _ hx hy _ q => ⟨d1, d2, hx, hy, s1, s2, q _ H2 (Ex.refl H2) (.bl _)⟩
theorem d_ne (hu : X.A.units + 64 < cLine) (ha : EvD X a σ H d1) (hb : EvD X b σ H d2) (s1 : SeqAt.shaped d1 = true) (s2 : SeqAt.shaped d2 = true) : EvD X (.Compare a [.NotEq] [b] pos) σ H (.bool (!PyData.eqv d1 d2)) := d_cmp (op_neD hu) ha hb (nomark _) fun _ _ H2 _ hx hy _ q => ⟨d1, d2, hx, hy, s1, s2, q _ H2 (Ex.refl H2) (.bl _)⟩
/-- is None -/
def isNo : PyData → Bool
  | .none => true
  | _ => false
theorem isNo_of {K : PySem.W.Frag} {v : V} (h : Dp K H v d) : decide (v = .non) = isNo d := by
  cases h <;> first | rfl | exact decide_eq_false (fun q => nomatch q)
theorem b_isN {j : Nat} {p : Pos} (ha : EvD X a σ H d) : EvB X (.Compare a [.Is] [.Constant .none j p] pos) σ H (isNo d) := b_cmp op_isN1 ha d_none (nomark _) fun x y H2 _ hx hy Q q => by
  rw [dp_non hy]
  refine ⟨rfl, ?_⟩
  rw [isNo_of hx]
  exact q H2 (Ex.refl H2)
theorem b_notN {j : Nat} {p : Pos} (ha : EvD X a σ H d) : EvB X (.Compare a [.IsNot] [.Constant .none j p] pos) σ H (!isNo d) := b_cmp op_notN1 ha d_none (nomark _) fun x y H2 _ hx hy Q q => by
  rw [dp_non hy]
  refine ⟨rfl, ?_⟩
  rw [isNo_of hx]
  exact q H2 (Ex.refl H2)
/-- a <= b <= c -/
theorem t_chain {i j k : Int} (ha : EvD X a σ H (.int i)) (hb : EvD X b σ H (.int j)) (hc : EvD X c σ H (.int k)) : ∀ H1, Ex H H1 → ∀ Q : VK, (∀ H2, Ex H1 H2 → Q (.bl (decide (i ≤ j) && decide (j ≤ k))) H2) →
    tChain (rI0 fun i j => .bl (decide (i ≤ j))) (rI0 fun i j => .bl (decide (i ≤ j))) (WpX X a) (WpX X b) (WpX X c) σ H1 Q := fun H1 e1 Q q =>
  ha.run H1 e1 _ fun x H2 e2 hx => hb.run H2 (e1.trans e2) _ fun y H3 e3 hy => by
    cases hx; cases hy
    refine ⟨i, j, rfl, rfl, _, rfl, ?_⟩
    by_cases h : i ≤ j
    · rw [if_pos (decide_eq_true h)]
      refine hc.run H3 (e1.trans (e2.trans e3)) _ fun z H4 e4 hz => ?_
      cases hz
      refine ⟨j, k, rfl, rfl, ?_⟩
      have r := q H4 (e2.trans (e3.trans e4))
      rw [decide_eq_true h, Bool.true_and] at r
      exact r
    · rw [if_neg (by rw [decide_eq_false h]; decide)]
      have r := q H3 (e2.trans e3)
      rw [decide_eq_false h, Bool.false_and] at r
      exact r
theorem d_chain {i j k : Int} (ha : EvD X a σ H (.int i)) (hb : EvD X b σ H (.int j)) (hc : EvD X c σ H (.int k)) (hm : lastMarks [.LtE, .LtE] [b, c] = false := by with_unfolding_all rfl) : EvD X (.Compare a [.LtE, .LtE] [b, c] pos) σ H (.bool (decide (i ≤ j) && decide (j ≤ k))) :=
  .of (pe_chain op_le op_le pp pp pp hm) fun H1 e1 Q q => t_chain ha hb hc H1 e1 Q fun H2 e2 => q _ H2 e2 (.bl _)
theorem b_chain {i j k : Int} (ha : EvD X a σ H (.int i)) (hb : EvD X b σ H (.int j)) (hc : EvD X c σ H (.int k)) (hm : lastMarks [.LtE, .LtE] [b, c] = false := by with_unfolding_all rfl) : EvB X (.Compare a [.LtE, .LtE] [b, c] pos) σ H (decide (i ≤ j) && decide (j ≤ k)) :=
  .of (pt_chain op_le op_le pp pp pp hm) fun H1 e1 Q q => t_chain ha hb hc H1 e1 _ fun H2 e2 => ⟨_, rfl, q H2 e2⟩
/-! and, or, not -/
theorem b_val {k : Bool} (h : EvD X e σ H (.bool k)) (he : ∀ whole, isTrue e X.env whole = (do let v ← whole; standAt e.pos; holding [v] (truthy v)) := by intro _; rfl) : EvB X e σ H k :=
  .of (pt_val pp he) fun H1 e1 Q q => h.run H1 e1 _ fun v H2 e2 hv => ⟨k, dp_bl hv, q H2 e2⟩
theorem b_not {k : Bool} (h : EvB X e σ H k) : EvB X (.UnaryOp .Not e pos) σ H (!k) := .of (pt_not tt) fun H1 e1 Q q => h.run H1 e1 _ fun H2 e2 => q H2 e2
theorem w_and1 {k : Bool} (h : EvB X a σ H k) : EvW X (.BoolOp .And [a] pos) σ H k := .of (pw_and1 tt) fun H1 e1 Q q => h.run H1 e1 _ q
theorem w_or1 {k : Bool} (h : EvB X a σ H k) : EvW X (.BoolOp .Or [a] pos) σ H k := .of (pw_or1 tt) fun H1 e1 Q q => h.run H1 e1 _ q
theorem w_and {k l : Bool} (h : EvB X a σ H k) (h2 : k = true → EvW X (.BoolOp .And (b :: es) pos) σ H l) : EvW X (.BoolOp .And (a :: b :: es) pos) σ H (k && l) := .of (pw_and tt ww) fun H1 e1 Q q => h.run H1 e1 _ fun H2 e2 => by
  cases k with
  | true => exact (h2 rfl).run H2 (e1.trans e2) Q fun H3 e3 => q H3 (e2.trans e3)
  | false => exact q H2 e2
theorem w_or {k l : Bool} (h : EvB X a σ H k) (h2 : k = false → EvW X (.BoolOp .Or (b :: es) pos) σ H l) : EvW X (.BoolOp .Or (a :: b :: es) pos) σ H (k || l) := .of (pw_or tt ww) fun H1 e1 Q q => h.run H1 e1 _ fun H2 e2 => by
  cases k with
  | true => exact q H2 e2
  | false => exact (h2 rfl).run H2 (e1.trans e2) Q fun H3 e3 => q H3 (e2.trans e3)
theorem d_not {k : Bool} (h : EvD X e σ H (.bool k)) : EvD X (.UnaryOp .Not e pos) σ H (.bool (!k)) := .of (pe_not pp) fun H1 e1 Q q => h.run H1 e1 _ fun v H2 e2 hv => ⟨k, dp_bl hv, q _ H2 e2 (.bl _)⟩
theorem d_one {op : BoolOp} (h : EvP X a σ H Φ) : EvP X (.BoolOp op [a] pos) σ H Φ := .of (pe_one pp) fun H1 e1 Q q => h.run H1 e1 _ q
theorem d_and {k l : Bool} (h : EvD X a σ H (.bool k)) (h2 : k = true → EvD X (.BoolOp .And (b :: es) pos) σ H (.bool l)) : EvD X (.BoolOp .And (a :: b :: es) pos) σ H (.bool (k && l)) := .of (pe_and pp pp) fun H1 e1 Q q => h.run H1 e1 _ fun v H2 e2 hv => ⟨k, dp_bl hv, by
  cases k with
  | true => exact (h2 rfl).run H2 (e1.trans e2) Q fun v H3 e3 hv => q v H3 (e2.trans e3) hv
  | false => exact q _ H2 e2 (.bl _)⟩
theorem d_or {k l : Bool} (h : EvD X a σ H (.bool k)) (h2 : k = false → EvD X (.BoolOp .Or (b :: es) pos) σ H (.bool l)) : EvD X (.BoolOp .Or (a :: b :: es) pos) σ H (.bool (k || l)) := .of (pe_or pp pp) fun H1 e1 Q q => h.run H1 e1 _ fun v H2 e2 hv => ⟨k, dp_bl hv, by
  cases k with
  | true => exact q _ H2 e2 (.bl _)
  | false => exact (h2 rfl).run H2 (e1.trans e2) Q fun v H3 e3 hv => q v H3 (e2.trans e3) hv⟩
theorem d_if {k : Bool} (h : EvB X c σ H k) (h1 : k = true → EvP X a σ H Φ) (h2 : k = false → EvP X b σ H Φ) : EvP X (.IfExp c a b pos) σ H Φ := .of (pe_ifExp tt pp pp) fun H1 e1 Q q => h.run H1 e1 _ fun H2 e2 => by
  cases k with
  | true => exact (h1 rfl).run H2 (e1.trans e2) Q fun v H3 e3 hv => q v H3 (e2.trans e3) hv
  | false => exact (h2 rfl).run H2 (e1.trans e2) Q fun v H3 e3 hv => q v H3 (e2.trans e3) hv
end
end D1
end
section
/-! sequences, calls, comprehensions -/
namespace D1
open PySem PySem.Spec PyProof.Rows L2 Evl W1
section
variable {X : Cx} {e a b c : Expr} {es : List Expr} {σ : L2.St} {H H' : Hp} {Φ Ψ : V → Hp → Prop} {d d1 d2 d3 : PyData} {ds : List PyData} {pos p : Pos}
theorem szl {n : Nat} (h : n ≤ 100000) : n ≤ sizeLine := by rw [sizeLine_eq]; omega
/-! argument lists, displays -/
theorem a_nil : EvA X [] σ H [] := ⟨fun H1 _ Q q => .of pa_nil (q [] H1 (Ex.refl H1) .nil)⟩
theorem a_cons (h : EvD X e σ H d) (hr : EvA X es σ H ds) (hs : starEach (e :: es) X.env = (false, eval e X.env) :: starEach es X.env := by rfl) : EvA X (e :: es) σ H (d :: ds) := ⟨fun H1 e1 Q q =>
  .of (pa_cons pp aa hs) (h.run H1 e1 _ fun v H2 e2 hv => hr.run H2 (e1.trans e2) _ fun vs H3 e3 hvs => q (v :: vs) H3 (e2.trans e3) (.cons (dp_ex e3 hv) hvs))⟩
/-- *t, t a tuple or a list -/
theorem a_starT {ts : List PyData} (h : EvD X e σ H (.tuple ts)) (hr : EvA X es σ H ds) (hs : starEach (.Starred e p :: es) X.env = (true, eval e X.env) :: starEach es X.env := by rfl) : EvA X (.Starred e p :: es) σ H (ts ++ ds) := ⟨fun H1 e1 Q q =>
  .of (StX.pa_star pp aa hs) (h.run H1 e1 _ fun v H2 e2 hv => by
    obtain ⟨a, xs, rfl, ha, hx⟩ := dp_tup hv
    exact ⟨a, xs, rfl, .inl ha, hr.run H2 (e1.trans e2) _ fun vs H3 e3 hvs => q (xs ++ vs) H3 (e2.trans e3) (dpa_append (dpa_ex e3 hx) hvs)⟩)⟩
theorem a_starL {ts : List PyData} (h : EvD X e σ H (.list ts)) (hr : EvA X es σ H ds) (hs : starEach (.Starred e p :: es) X.env = (true, eval e X.env) :: starEach es X.env := by rfl) : EvA X (.Starred e p :: es) σ H (ts ++ ds) := ⟨fun H1 e1 Q q =>
  .of (StX.pa_star pp aa hs) (h.run H1 e1 _ fun v H2 e2 hv => by
    obtain ⟨a, xs, rfl, ha, hx⟩ := dp_lst hv
    exact ⟨a, xs, rfl, .inr ha, hr.run H2 (e1.trans e2) _ fun vs H3 e3 hvs => q (xs ++ vs) H3 (e2.trans e3) (dpa_append (dpa_ex e3 hx) hvs)⟩)⟩
theorem d_tup {j : Nat} (h : EvA X es σ H ds) (hl : ds.length ≤ 100000) : EvD X (.Tuple es j pos) σ H (.tuple ds) :=
  .of (pe_tup aa) fun H1 e1 Q q => h.run H1 e1 _ fun vs H2 e2 hvs => ⟨szl (by rw [dpa_length hvs]; exact hl), fun t ht => q _ _ (e2.trans (Ex.new ht)) (.tup (st_of upd_same) (dpa_ex (Ex.new ht) hvs))⟩
theorem n_lst (h : EvA X es σ H ds) (hl : ds.length ≤ 100000) : EvN X (.List es pos) σ H ds :=
  .of (pe_lst aa) fun H1 e1 Q q => h.run H1 e1 _ fun vs H2 e2 hvs => ⟨szl (by rw [dpa_length hvs]; exact hl), fun t ht => q _ _ (e2.trans (Ex.new ht)) ⟨t, vs, rfl, fresh_back (e1.trans e2) ht, upd_same, dpa_ex (Ex.new ht) hvs⟩⟩
theorem EvN.toD (h : EvN X e σ H ds) : EvD X e σ H (.list ds) := ⟨fun H1 e1 Q q => h.run H1 e1 Q fun v H2 e2 ⟨a, xs, ev, _, ha, hx⟩ => q v H2 e2 (by rw [ev]; exact .lst (sq_of ha) hx)⟩
theorem d_lst (h : EvA X es σ H ds) (hl : ds.length ≤ 100000) : EvD X (.List es pos) σ H (.list ds) := EvN.toD (n_lst h hl)
/-! subscripts -/
theorem atI_d {K : PySem.W.Frag} {vs : List V} {i : Int} (h : DpAll K H vs ds) (hi : atI ds i = some d) : ∃ v, atI vs i = some v ∧ Dp K H v d := by
  unfold atI at hi ⊢
  rw [dpa_length h]
  cases e : ixN ds.length i with
  | none => rw [e] at hi; cases hi
  | some j =>
    rw [e] at hi
    exact dpa_get h hi
theorem d_ixT {i : Int} (ha : EvD X a σ H (.tuple ds)) (hb : EvD X b σ H (.int i)) (hi : atI ds i = some d) (hs : PlainIx b := by intro _ _; rfl) : EvD X (.Subscript a b pos) σ H d :=
  .of (pe_ix ix_tup pp pp hs) fun H1 e1 Q q => ha.run H1 e1 _ fun x H2 e2 hx => hb.run H2 (e1.trans e2) _ fun y H3 e3 hy => by
    obtain ⟨p, xs, rfl, hp, hxs⟩ := dp_tup (dp_ex e3 hx)
    obtain ⟨v, hv, hd⟩ := atI_d hxs hi
    exact ⟨p, xs, i, v, rfl, dp_int hy, hp, hv, q v H3 (e2.trans e3) hd⟩
theorem d_ixL {i : Int} (ha : EvD X a σ H (.list ds)) (hb : EvD X b σ H (.int i)) (hi : atI ds i = some d) (hs : PlainIx b := by intro _ _; rfl) : EvD X (.Subscript a b pos) σ H d :=
  .of (pe_ix ix_list pp pp hs) fun H1 e1 Q q => ha.run H1 e1 _ fun x H2 e2 hx => hb.run H2 (e1.trans e2) _ fun y H3 e3 hy => by
    obtain ⟨p, xs, rfl, hp, hxs⟩ := dp_lst (dp_ex e3 hx)
    obtain ⟨v, hv, hd⟩ := atI_d hxs hi
    exact ⟨p, xs, i, v, rfl, dp_int hy, hp, hv, q v H3 (e2.trans e3) hd⟩
def cutD (xs : List PyData) (lo hi : Option Int) : List PyData := (xs.drop (HT.sIx xs.length 0 lo)).take (HT.sIx xs.length xs.length hi - HT.sIx xs.length 0 lo)
theorem cut_dp {K : PySem.W.Frag} {vs : List V} {lo hi : Option Int} (h : DpAll K H vs ds) : DpAll K H (cutV vs lo hi) (cutD ds lo hi) := by
  unfold cutV cutD
  rw [dpa_length h]
  exact dpa_take _ (dpa_drop _ h)
theorem cut_all {lo hi : Option Int} {vs : List V} (h : HT.sIx vs.length 0 lo = 0 ∧ HT.sIx vs.length vs.length hi = vs.length) (hl : vs.length = ds.length) : cutD ds lo hi = ds := by
  unfold cutD
  rw [← hl, h.1, h.2, List.drop_zero, Nat.sub_zero, hl, List.take_length]
theorem o_none : EvO X none σ H none := ⟨fun H1 _ Q q => .of po_none (q H1 (Ex.refl H1))⟩
theorem o_some {i : Int} (h : EvD X e σ H (.int i)) : EvO X (some e) σ H (some i) := ⟨fun H1 e1 Q q => .of (po_some pp) (h.run H1 e1 _ fun v H2 e2 hv => ⟨i, dp_int hv, q H2 e2⟩)⟩
theorem d_slT {lo hi : Option Expr} {l u : Option Int} {p2 : Pos} (ha : EvD X a σ H (.tuple ds)) (hl : EvO X lo σ H l) (hu : EvO X hi σ H u) : EvD X (.Subscript a (.Slice lo hi none p2) pos) σ H (.tuple (cutD ds l u)) :=
  .of (pe_slice sl_tupA pp oo oo) fun H1 e1 Q q => ha.run H1 e1 _ fun x H2 e2 hx => hl.run H2 (e1.trans e2) _ fun H3 e3 => hu.run H3 (e1.trans (e2.trans e3)) _ fun H4 e4 => by
    obtain ⟨p, xs, rfl, hp, hxs⟩ := dp_tup (dp_ex (e3.trans e4) hx)
    refine ⟨p, xs, rfl, hp, fun hw => ?_, fun _ t ht => q _ _ ((e2.trans (e3.trans e4)).trans (Ex.new ht)) (.tup (st_of upd_same) (dpa_ex (Ex.new ht) (cut_dp hxs)))⟩
    refine q _ _ (e2.trans (e3.trans e4)) ?_
    rw [cut_all hw (dpa_length hxs)]
    exact .tup hp hxs
theorem n_slL {lo hi : Option Expr} {l u : Option Int} {p2 : Pos} (ha : EvD X a σ H (.list ds)) (hl : EvO X lo σ H l) (hu : EvO X hi σ H u) : EvN X (.Subscript a (.Slice lo hi none p2) pos) σ H (cutD ds l u) :=
  .of (pe_slice sl_list pp oo oo) fun H1 e1 Q q => ha.run H1 e1 _ fun x H2 e2 hx => hl.run H2 (e1.trans e2) _ fun H3 e3 => hu.run H3 (e1.trans (e2.trans e3)) _ fun H4 e4 => by
    obtain ⟨p, xs, rfl, hp, hxs⟩ := dp_lst (dp_ex (e3.trans e4) hx)
    exact ⟨p, xs, rfl, hp, fun t ht => q _ _ ((e2.trans (e3.trans e4)).trans (Ex.new ht)) ⟨t, _, rfl, fresh_back (e1.trans (e2.trans (e3.trans e4))) ht, upd_same, dpa_ex (Ex.new ht) (cut_dp hxs)⟩⟩
theorem d_revT {k : Nat} {p1 p2 p3 : Pos} (ha : EvD X a σ H (.tuple ds)) : EvD X (.Subscript a (.Slice none none (some (.UnaryOp .USub (.Constant (.int 1) k p1) p2)) p3) pos) σ H (.tuple ds.reverse) :=
  .of (pe_revT pp) fun H1 e1 Q q => ha.run H1 e1 _ fun x H2 e2 hx => by
    obtain ⟨p, xs, rfl, hp, hxs⟩ := dp_tup hx
    exact ⟨p, xs, rfl, hp, fun t ht => q _ _ (e2.trans (Ex.new ht)) (.tup (st_of upd_same) (dpa_ex (Ex.new ht) (dpa_rev hxs)))⟩
/-- t + u -/
theorem d_addT (ha : EvD X a σ H (.tuple ds)) {fs : List PyData} (hb : EvD X b σ H (.tuple fs)) (hl : ds.length + fs.length ≤ 100000) : EvD X (.BinOp a .Add b pos) σ H (.tuple (ds ++ fs)) :=
  d_op op_catA ha hb fun x y H2 e2 hx hy Q q => by
    obtain ⟨p, xs, rfl, hp, hxs⟩ := dp_tup hx
    obtain ⟨p2, ys, rfl, hp2, hys⟩ := dp_tup hy
    refine ⟨p, p2, xs, ys, rfl, rfl, hp, hp2, szl (by rw [dpa_length hxs, dpa_length hys]; exact hl), fun h0 => ?_, fun _ h0 => ?_, fun _ _ t ht => q _ _ (Ex.new ht) (.tup (st_of upd_same) (dpa_ex (Ex.new ht) (dpa_append hxs hys)))⟩
    · subst h0
      cases hxs
      exact q _ _ (Ex.refl H2) (.tup hp2 hys)
    · subst h0
      cases hys
      exact q _ _ (Ex.refl H2) (by rw [List.append_nil]; exact .tup hp hxs)
/-! built-in calls -/
theorem d_cb {id x : String} {r : List V → Hp → VK → Prop} (hc : CallR X (.builtin id) r) (hg : Gl X x) (hm : X.mg x = none) (hv : bootBuiltins x = some (.builtin id)) (ha : EvA X (e :: es) σ H ds)
    (hr : ∀ vs H2, Ex H H2 → DpAll X.K H2 vs ds → ∀ Q : VK, (∀ v H3, Ex H2 H3 → Φ v H3 → Q v H3) → r vs H2 Q) (hn : (x : Str) ≠ "__name__" := by decide) (hdb : ((x : Str) == ("__debug__" : Str)) = false := by decide)
    (he : starEach (e :: es) X.env = (false, eval e X.env) :: starEach es X.env := by rfl) (hpl : (backTo pos (starEach es X.env)).any (·.1) = false := by rfl) : EvP X (.Call (.Name x p) (e :: es) [] pos) σ H Φ :=
  .of (pe_callB hc hg hm hv aa hn hdb he hpl) fun H1 e1 Q q => ha.run H1 e1 _ fun vs H2 e2 hvs => hr vs H2 (e1.trans e2) hvs Q fun v H3 e3 hv => q v H3 (e2.trans e3) hv
theorem d_ct {T x : String} {r : List V → Hp → VK → Prop} (hc : CallR X (.type T) r) (hg : Gl X x) (hm : X.mg x = none) (hv : bootBuiltins x = some (.type T)) (ha : EvA X (e :: es) σ H ds)
    (hr : ∀ vs H2, Ex H H2 → DpAll X.K H2 vs ds → ∀ Q : VK, (∀ v H3, Ex H2 H3 → Φ v H3 → Q v H3) → r vs H2 Q) (hn : (x : Str) ≠ "__name__" := by decide) (hdb : ((x : Str) == ("__debug__" : Str)) = false := by decide)
    (he : starEach (e :: es) X.env = (false, eval e X.env) :: starEach es X.env := by rfl) (hpl : (backTo pos (starEach es X.env)).any (·.1) = false := by rfl) : EvP X (.Call (.Name x p) (e :: es) [] pos) σ H Φ :=
  .of (pe_callTy hc hg hm hv aa hn hdb he hpl) fun H1 e1 Q q => ha.run H1 e1 _ fun vs H2 e2 hvs => hr vs H2 (e1.trans e2) hvs Q fun v H3 e3 hv => q v H3 (e2.trans e3) hv
theorem d_lenT (hg : Gl X "len") (hm : X.mg "len" = none) (ha : EvD X a σ H (.tuple ds)) (he : starEach [a] X.env = (false, eval a X.env) :: starEach [] X.env := by rfl) : EvD X (.Call (.Name "len" p) [a] [] pos) σ H (.int ds.length) :=
  d_cb (x := "len") (id := "len") call_len_seq hg hm boot_len (a_cons ha a_nil he) (fun vs H2 _ hvs Q q => by
    cases hvs with | cons h t => cases t; obtain ⟨p, xs, rfl, hp, hxs⟩ := dp_tup h; exact ⟨p, xs, rfl, .inr hp, by rw [dpa_length hxs]; exact q _ H2 (Ex.refl H2) (.int _)⟩) (he := he)
theorem d_lenL (hg : Gl X "len") (hm : X.mg "len" = none) (ha : EvD X a σ H (.list ds)) (he : starEach [a] X.env = (false, eval a X.env) :: starEach [] X.env := by rfl) : EvD X (.Call (.Name "len" p) [a] [] pos) σ H (.int ds.length) :=
  d_cb (x := "len") (id := "len") call_len_seq hg hm boot_len (a_cons ha a_nil he) (fun vs H2 _ hvs Q q => by
    cases hvs with | cons h t => cases t; obtain ⟨p, xs, rfl, hp, hxs⟩ := dp_lst h; exact ⟨p, xs, rfl, .inl hp, by rw [dpa_length hxs]; exact q _ H2 (Ex.refl H2) (.int _)⟩) (he := he)
theorem d_lenS {z : Str} (hg : Gl X "len") (hm : X.mg "len" = none) (ha : EvD X a σ H (.str z)) (hz : z.length ≤ 100000) (he : starEach [a] X.env = (false, eval a X.env) :: starEach [] X.env := by rfl) : EvD X (.Call (.Name "len" p) [a] [] pos) σ H (.int z.length) :=
  d_cb (x := "len") (id := "len") call_len_str hg hm boot_len (a_cons ha a_nil he) (fun vs H2 _ hvs Q q => by
    cases hvs with | cons h t => cases t; cases h; exact ⟨z, rfl, szl hz, q _ H2 (Ex.refl H2) (.int _)⟩) (he := he)
theorem d_sumT {ns : List Int} (hc : X.calm = true) (hg : Gl X "sum") (hm : X.mg "sum" = none) (ha : EvD X a σ H (.tuple (ns.map .int))) (he : starEach [a] X.env = (false, eval a X.env) :: starEach [] X.env := by rfl) : EvD X (.Call (.Name "sum" p) [a] [] pos) σ H (.int ns.sum) :=
  d_cb (x := "sum") (id := "sum") (cr_sumT hc) hg hm boot_sum (a_cons ha a_nil he) (fun vs H2 _ hvs Q q => by
    cases hvs with | cons h t => cases t; obtain ⟨p, xs, rfl, hp, hxs⟩ := dp_tup h; exact ⟨p, ns, rfl, by rw [← dpa_ints hxs]; exact hp, q _ H2 (Ex.refl H2) (.int _)⟩) (he := he)
def maxI (ns : List Int) : Int := ns.foldl max (ns.headD 0)
theorem maxI_of : ∀ {ns : List Int} {m : Int}, m ∈ ns → (∀ y ∈ ns, y ≤ m) → maxI ns = m := by
  intro ns m hm hy
  have key : ∀ (l : List Int) (a : Int), (∀ y ∈ l, y ≤ m) → a ≤ m → (a = m ∨ m ∈ l) → l.foldl max a = m := by
    intro l
    induction l with
    | nil => intro a _ _ h; rcases h with h | h; exact h; cases h
    | cons b l ih =>
      intro a hl ha h
      show l.foldl max (max a b) = m
      have hb := hl b (List.mem_cons_self ..)
      refine ih _ (fun y hy => hl y (List.mem_cons_of_mem _ hy)) (by omega) ?_
      rcases h with h | h
      · exact .inl (by omega)
      · rcases List.mem_cons.mp h with e | e
        · exact .inl (by omega)
        · exact .inr e
  cases ns with
  | nil => cases hm
  | cons a l => exact key (a :: l) a hy (hy a (List.mem_cons_self ..)) (.inr hm)
def minI (ns : List Int) : Int := ns.foldl min (ns.headD 0)
theorem minI_of : ∀ {ns : List Int} {m : Int}, m ∈ ns → (∀ y ∈ ns, m ≤ y) → minI ns = m := by
  intro ns m hm hy
  have key : ∀ (l : List Int) (a : Int), (∀ y ∈ l, m ≤ y) → m ≤ a → (a = m ∨ m ∈ l) → l.foldl min a = m := by
    intro l
    induction l with
    | nil => intro a _ _ h; rcases h with h | h; exact h; cases h
    | cons b l ih =>
      intro a hl ha h
      show l.foldl min (min a b) = m
      have hb := hl b (List.mem_cons_self ..)
      refine ih _ (fun y hy => hl y (List.mem_cons_of_mem _ hy)) (by omega) ?_
      rcases h with h | h
      · exact .inl (by omega)
      · rcases List.mem_cons.mp h with e | e
        · exact .inl (by omega)
        · exact .inr e
  cases ns with
  | nil => cases hm
  | cons a l => exact key (a :: l) a hy (hy a (List.mem_cons_self ..)) (.inr hm)
theorem d_maxT {ns : List Int} (hc : X.calm = true) (hg : Gl X "max") (hm : X.mg "max" = none) (ha : EvD X a σ H (.tuple (ns.map .int))) (h0 : 0 < ns.length) (he : starEach [a] X.env = (false, eval a X.env) :: starEach [] X.env := by rfl) : EvD X (.Call (.Name "max" p) [a] [] pos) σ H (.int (maxI ns)) :=
  d_cb (x := "max") (id := "max") (cr_maxT hc) hg hm boot_max (a_cons ha a_nil he) (fun vs H2 _ hvs Q q => by
    cases hvs with | cons h t => cases t; obtain ⟨p, xs, rfl, hp, hxs⟩ := dp_tup h; exact ⟨p, ns, rfl, by rw [← dpa_ints hxs]; exact hp, h0, fun m h1 h2 => q _ H2 (Ex.refl H2) (by rw [maxI_of h1 h2]; exact .int _)⟩) (he := he)
theorem d_minL {ns : List Int} (hc : X.calm = true) (hg : Gl X "min") (hm : X.mg "min" = none) (ha : EvD X a σ H (.list (ns.map .int))) (h0 : 0 < ns.length) (he : starEach [a] X.env = (false, eval a X.env) :: starEach [] X.env := by rfl) : EvD X (.Call (.Name "min" p) [a] [] pos) σ H (.int (minI ns)) :=
  d_cb (x := "min") (id := "min") (cr_min hc) hg hm boot_min (a_cons ha a_nil he) (fun vs H2 _ hvs Q q => by
    cases hvs with | cons h t => cases t; obtain ⟨p, xs, rfl, hp, hxs⟩ := dp_lst h; exact ⟨p, ns, rfl, by rw [← dpa_ints hxs]; exact hp, h0, fun m h1 h2 => q _ H2 (Ex.refl H2) (by rw [minI_of h1 h2]; exact .int _)⟩) (he := he)
theorem d_all {bs : List Bool} (hc : X.calm = true) (hg : Gl X "all") (hm : X.mg "all" = none) (ha : EvD X a σ H (.list (bs.map .bool))) (he : starEach [a] X.env = (false, eval a X.env) :: starEach [] X.env := by rfl) : EvD X (.Call (.Name "all" p) [a] [] pos) σ H (.bool (bs.all id)) :=
  d_cb (x := "all") (id := "all") (cr_all hc) hg hm boot_all (a_cons ha a_nil he) (fun vs H2 _ hvs Q q => by
    cases hvs with | cons h t => cases t; obtain ⟨p, xs, rfl, hp, hxs⟩ := dp_lst h; exact ⟨p, bs, rfl, by rw [← dpa_bools hxs]; exact hp, q _ H2 (Ex.refl H2) (.bl _)⟩) (he := he)
theorem d_tupleL (hg : Gl X "tuple") (hm : X.mg "tuple" = none) (ha : EvD X a σ H (.list ds)) (he : starEach [a] X.env = (false, eval a X.env) :: starEach [] X.env := by rfl) : EvD X (.Call (.Name "tuple" p) [a] [] pos) σ H (.tuple ds) :=
  d_ct (x := "tuple") (T := "tuple") call_tuple_of hg hm boot_tuple (a_cons ha a_nil he) (fun vs H2 _ hvs Q q => by
    cases hvs with | cons h t => cases t; obtain ⟨p, xs, rfl, hp, hxs⟩ := dp_lst h; exact ⟨p, xs, rfl, .inl ⟨hp, fun l hl => q _ _ (Ex.new hl) (.tup (st_of upd_same) (dpa_ex (Ex.new hl) hxs))⟩⟩) (he := he)
theorem d_strI {i : Int} (hg : Gl X "str") (hm : X.mg "str" = none) (ha : EvD X a σ H (.int i)) (hi : i.natAbs < 2 ^ 64) (he : starEach [a] X.env = (false, eval a X.env) :: starEach [] X.env := by rfl) : EvD X (.Call (.Name "str" p) [a] [] pos) σ H (.str (toString i)) :=
  d_ct (x := "str") (T := "str") call_str_int hg hm boot_str (a_cons ha a_nil he) (fun vs H2 _ hvs Q q => by
    cases hvs with | cons h t => cases t; cases h; exact ⟨i, rfl, (by
      by_cases h0 : i.natAbs = 0
      · rw [h0]; decide
      · exact Nat.lt_trans ((Nat.log2_lt h0).mpr hi) (by decide)), q _ H2 (Ex.refl H2) (.str _)⟩) (he := he)
theorem d_intS {z : Str} {n : Int} (hg : Gl X "int") (hm : X.mg "int" = none) (ha : EvD X a σ H (.str z)) (hz : PySem.intText? z = some n) (hl : z.length ≤ 640) (he : starEach [a] X.env = (false, eval a X.env) :: starEach [] X.env := by rfl) : EvD X (.Call (.Name "int" p) [a] [] pos) σ H (.int n) :=
  d_ct (x := "int") (T := "int") call_int_str hg hm boot_int (a_cons ha a_nil he) (fun vs H2 _ hvs Q q => by
    cases hvs with | cons h t => cases t; cases h; exact ⟨z, n, rfl, hz, hl, q _ H2 (Ex.refl H2) (.int _)⟩) (he := he)
/-- isinstance(x, T), T a built-in type -/
def tyD : PyData → String
  | .none => "NoneType"
  | .bool _ => "bool"
  | .int _ => "int"
  | .str _ => "str"
  | .list _ => "list"
  | .tuple _ => "tuple"
  | _ => "?"
theorem tyX_of {K : PySem.W.Frag} {v : V} (h : Dp K H v d) : TyX K H v (.type (tyD d)) := by
  cases h with
  | non => exact .base .non
  | bl b => exact .base (.bl b)
  | int i => exact .base (.int i)
  | str x => exact .base (.str x)
  | lst h _ =>
    rcases h with h | h
    · rcases h with h | ⟨o, h⟩
      · exact .base (.lst h)
      · exact .base (.frz h)
    · obtain ⟨o, its, n, q, hc, _⟩ := h
      exact .kList q hc
  | tup h _ =>
    rcases h with h | h
    · rcases h with h | ⟨o, h⟩
      · exact .base (.tup h)
      · exact .fTuple h
    · obtain ⟨o, its, n, q, hc, _⟩ := h
      exact .kTuple q hc

theorem d_isinst {T x : String} {k : Bool} (hg : Gl X "isinstance") (hm : X.mg "isinstance" = none) (hg2 : Gl X x) (hm2 : X.mg x = none) (hv2 : bootBuiltins x = some (.type T)) (ha : EvD X a σ H d) (hk : kitB (tyD d) T = some k)
    (he : starEach [a, .Name x p] X.env = (false, eval a X.env) :: starEach [.Name x p] X.env := by rfl) (he2 : starEach [.Name x p] X.env = (false, eval (.Name x p) X.env) :: starEach [] X.env := by rfl) (hpl : (backTo pos (starEach [.Name x p] X.env)).any (·.1) = false := by rfl)
    (hn : (x : Str) ≠ "__name__" := by decide) (hdb : ((x : Str) == ("__debug__" : Str)) = false := by decide) {p2 : Pos} : EvD X (.Call (.Name "isinstance" p2) [a, .Name x p] [] pos) σ H (.bool k) :=
  .of (pe_callB call_isi hg hm boot_isinstance (pa_cons pp (pa_cons (pe_bltn hg2 hm2 hv2 (v := .ty T) rfl hn hdb) pa_nil he2) he) (he := he) (hpl := hpl)) fun H1 e1 Q q => ha.run H1 e1 _ fun v H2 e2 hv => ⟨v, .ty T, .type (tyD d), .type T, k, rfl, .ty T, tyX_of hv, kit_ty hk, q _ H2 e2 (.bl _)⟩
end
end D1
end
section
/-! data without lists; calls of own defs; comprehensions; statements -/
namespace D1
open PySem PySem.Spec PyProof.Rows L2 Evl W1
mutual
def noL : PyData → Bool
  | .tuple ds => noLs ds
  | .none | .bool _ | .int _ | .str _ => true
  | _ => false
def noLs : List PyData → Bool
  | [] => true
  | d :: ds => noL d && noLs ds
end
theorem noLs_all : ∀ {ds : List PyData}, noLs ds = true → ∀ d ∈ ds, noL d = true
  | [], _, d, h => nomatch h
  | e :: es, h, d, hd => by
    have h' : (noL e && noLs es) = true := by rw [← noLs]; exact h
    obtain ⟨h1, h2⟩ := (Bool.and_eq_true _ _).mp h'
    rcases List.mem_cons.mp hd with z | z
    · subst z; exact h1
    · exact noLs_all h2 d z
theorem all_noLs : ∀ {ds : List PyData}, (∀ d ∈ ds, noL d = true) → noLs ds = true
  | [], _ => by rw [noLs]
  | e :: es, h => by
    rw [noLs, h e (List.mem_cons_self ..), all_noLs fun d hd => h d (List.mem_cons_of_mem _ hd)]
    rfl
theorem noL_tup {ds : List PyData} (h : ∀ d ∈ ds, noL d = true) : noL (.tuple ds) = true := by rw [noL]; exact all_noLs h
/-- the tuples stay -/
def Tu (K : PySem.W.Frag) (H H' : Hp) : Prop := ∀ a xs, SqT K H a xs → SqT K H' a xs
theorem Tu.refl {K : PySem.W.Frag} (H : Hp) : Tu K H H := fun _ _ h => h
theorem Tu.trans {K : PySem.W.Frag} {H H1 H2 : Hp} (a : Tu K H H1) (b : Tu K H1 H2) : Tu K H H2 := fun x o h => b x o (a x o h)
theorem Tu.of {K : PySem.W.Frag} {H H' : Hp} (e : Ex H H') : Tu K H H' := fun _ _ h => ex_t e h
/-- a list, an instance is written -/
theorem Tu.put {K : PySem.W.Frag} {H : Hp} {a : Addr} {o u : HO} (h : H a = some o) (hn : ∀ xs, o ≠ .tup xs) (hf : ∀ ob w, o ≠ .frz ob w) : Tu K H (upd H a u) := fun b xs q => by
  rcases q with (q | ⟨ob, q⟩) | q
  · exact .inl (.inl (by rw [upd_ne (fun z => by rw [z, h] at q; exact hn xs (Option.some.inj q))]; exact q))
  · exact .inl (.inr ⟨ob, by rw [upd_ne (fun z => by rw [z, h] at q; exact hf ob _ (Option.some.inj q))]; exact q⟩)
  · exact .inr q
theorem Tu.lst {K : PySem.W.Frag} {H : Hp} {a : Addr} {xs : List V} {u : HO} (h : H a = some (.lst xs)) : Tu K H (upd H a u) := Tu.put h (fun _ z => nomatch z) fun _ _ z => nomatch z
theorem Tu.ins {K : PySem.W.Frag} {H : Hp} {a C dx : Addr} {fs : List (Str × V)} {u : HO} (h : H a = some (.ins C dx fs)) : Tu K H (upd H a u) := Tu.put h (fun _ z => nomatch z) fun _ _ z => nomatch z
mutual
theorem dp_tu {K : PySem.W.Frag} {H H' : Hp} (e : Tu K H H') : ∀ {v : V} {d : PyData}, noL d = true → Dp K H v d → Dp K H' v d
  | _, _, _, .non => .non
  | _, _, _, .bl b => .bl b
  | _, _, _, .int i => .int i
  | _, _, _, .str x => .str x
  | _, _, n, .lst h a => by rw [noL] at n <;> cases n
  | _, _, n, .tup h a => .tup (e _ _ h) (dpa_tu e (by rw [noL] at n; exact n) a)
theorem dpa_tu {K : PySem.W.Frag} {H H' : Hp} (e : Tu K H H') : ∀ {vs : List V} {ds : List PyData}, noLs ds = true → DpAll K H vs ds → DpAll K H' vs ds
  | _, _, _, .nil => .nil
  | _, _, n, .cons h t => by
    rw [noLs] at n
    obtain ⟨n1, n2⟩ := (Bool.and_eq_true _ _).mp n
    exact .cons (dp_tu e n1 h) (dpa_tu e n2 t)
end
theorem noLs_ints : ∀ ns : List Int, noLs (ns.map .int) = true := fun ns => all_noLs fun d hd => by
  obtain ⟨n, _, rfl⟩ := List.mem_map.mp hd
  rw [noL]
theorem noL_row (ns : List Int) : noL (.tuple (ns.map .int)) = true := by rw [noL]; exact noLs_ints ns
/-! ### own defs -/
/-- no exception goes out -/
theorem passF {X : Cx} : Passes (L2N.CX X.prog X.w) X (fun _ _ _ => False) := fun _ _ _ _ _ _ _ h => by
  obtain ⟨_, _, _, _, _, _, _, _, _, _, _, _, z⟩ := h
  exact z.elim
abbrev E0' : XK := fun _ _ _ => False
/-- the def that the module calls x -/
structure Gf (P : Program) (w : World) (K : PySem.W.Frag) (mg : Str → Option Value) (base : Heap) (k : Nat) (x : Str) (ps : List Str) (sp : Sp) : Prop where
  ex : ∃ fd, FnOk P w K mg base (L2N.CX P w) k (He.ga K x) fd ps sp ∧ Binds K fd ps []
  m : mg x = some (.ref (He.ga K x))
  kp : PySem.W.keepIn K (.ref (He.ga K x)) = true
/-- from data to data -/
def Spf (K : PySem.W.Frag) (R : List PyData → PyData → Prop) : Sp := fun vs H Q _ => ∃ ds r, R ds r ∧ DpAll K H vs ds ∧ ∀ v H', Ex H H' → Dp K H' v r → Q v H'
section
variable {X : Cx} {e a b c : Expr} {es : List Expr} {σ : L2.St} {H H' : Hp} {Φ Ψ : V → Hp → Prop} {d d1 d2 d3 r : PyData} {ds : List PyData} {pos p : Pos} {k : Nat} {x : Str} {ps : List Str} {R : List PyData → PyData → Prop}
/-- f(e, ..) -/
theorem w_call {sp : Sp} {E : XK} {Q : VK} (G : Gf X.prog X.w X.K X.mg X.base k x ps sp) (hr : Room k X.A) (hg : Gl X x) (hx : Passes (L2N.CX X.prog X.w) X E) (h : WaX X (e :: es) σ H fun vs H1 => sp vs H1 Q E) (hdb : (x == ("__debug__" : Str)) = false := by decide)
    (he : starEach (e :: es) X.env = (false, eval e X.env) :: starEach es X.env := by rfl) (hpl : (backTo pos (starEach es X.env)).any (·.1) = false := by rfl) : WpX X (.Call (.Name x p) (e :: es) [] pos) σ H Q := by
  obtain ⟨fd, F, B⟩ := G.ex
  refine .of (pe_call F hr hg G.m G.kp B .nil hx aa hdb he hpl) ?_
  show WaX X (e :: es) σ H fun vs H1 => sp (vs ++ []) H1 Q E
  have z : (fun (vs : List V) H1 => sp (vs ++ []) H1 Q E) = fun vs H1 => sp vs H1 Q E := by funext vs H1; rw [List.append_nil]
  rw [z]
  exact h
theorem d_call (G : Gf X.prog X.w X.K X.mg X.base k x ps (Spf X.K R)) (hr : Room k X.A) (hg : Gl X x) (ha : EvA X (e :: es) σ H ds) (hR : R ds r) (hdb : (x == ("__debug__" : Str)) = false := by decide)
    (he : starEach (e :: es) X.env = (false, eval e X.env) :: starEach es X.env := by rfl) (hpl : (backTo pos (starEach es X.env)).any (·.1) = false := by rfl) : EvD X (.Call (.Name x p) (e :: es) [] pos) σ H r := ⟨fun H1 e1 Q q =>
  w_call G hr hg passF (ha.run H1 e1 _ fun vs H2 e2 hvs => ⟨ds, r, hR, hvs, fun v H3 e3 hv => q v H3 (e2.trans e3) hv⟩) hdb he hpl⟩
/-! ### comprehensions over data -/
/-- what the list at D holds -/
def CwD (K : PySem.W.Frag) (H : Hp) (rs : List PyData) (D : Addr) (i : Nat) (H' : Hp) : Prop := H D = none ∧ Ex H H' ∧ ∃ acc, H' D = some (.lst acc) ∧ DpAll K H' acc (rs.take i)
theorem cwD_turn {X : Cx} {K : PySem.W.Frag} {H H1 : Hp} {rs : List PyData} {D : Addr} {i : Nat} {y : V} {r : PyData} (hn : noLs rs = true) (hz : rs.length ≤ 100000) (p : CwD K H rs D i H') (e : Ex H' H1) (hr : rs[i]? = some r) (hy : Dp K H1 y r) :
    ∃ acc, H1 D = some (.lst acc) ∧ acc.length < sizeLine ∧ CwD K H rs D (i + 1) (upd H1 D (.lst (acc ++ [y]))) := by
  obtain ⟨p1, p2, acc, p3, p4⟩ := p
  have hi : i < rs.length := (List.getElem?_eq_some_iff.mp hr).1
  have hD : H1 D = some (.lst acc) := e D _ p3
  have hl := dpa_length p4
  rw [List.length_take] at hl
  refine ⟨acc, hD, Nat.lt_of_lt_of_le (show acc.length < 100001 by omega) (by rw [sizeLine_eq]; decide), p1, Ex.mut (p2.trans e) p1, acc ++ [y], upd_same, ?_⟩
  have et : rs.take (i + 1) = rs.take i ++ [r] := by rw [List.take_add_one, hr]; rfl
  rw [et]
  have nt : noLs (rs.take i) = true := all_noLs fun d hd => noLs_all hn d (List.mem_of_mem_take hd)
  have nr : noL r = true := noLs_all hn r (List.mem_of_getElem? hr)
  exact dpa_append (dpa_tu (Tu.lst hD) nt (dpa_ex e p4)) (.cons (dp_tu (Tu.lst hD) nr hy) .nil)
theorem cwD_end {K : PySem.W.Frag} {rs : List PyData} {D : Addr} {Q : VK} (p : CwD K H rs D rs.length H') (q : ∀ v H2, Ex H H2 → (∃ a xs, v = .ref a ∧ H a = none ∧ H2 a = some (.lst xs) ∧ DpAll K H2 xs rs) → Q v H2) : Q (.ref D) H' := by
  obtain ⟨p1, p2, acc, p3, p4⟩ := p
  rw [List.take_length] at p4
  exact q _ _ p2 ⟨D, acc, rfl, p1, p3, p4⟩
/-- the block's own context -/
abbrev Blk (X : Cx) (scope : Scope) (P : Cx → Prop) : Prop := ∀ (s : Shared) (H : Hp) (C : Addr) (cl : List (Str × Addr)) (fp : List Addr), P (X.blk s H scope (compEnvC scope cl C X.env) fp)
theorem r_lcT {iter elt : Expr} {scope : Scope} {own : List (Str × Nat)} {y : Str} {j : Nat}  (g : PyData → PyData) (hc : X.calm = true) (hN : X.N.Nodup) (hi : EvD X iter σ H (.tuple ds)) (ok : BlkOk X.N X.env.scope scope own) (hj : X.N[j]? = some y) (hy : scope.names.lookup y = some .local)
    (hw : ∀ v, wipe ((wipe σ (own.map (·.2))).set j (some v)) (own.map (·.2)) = wipe σ (own.map (·.2))) (hz : ds.length ≤ 100000) (hn : ∀ d ∈ ds, noL (g d) = true)
    (he : Blk X scope fun X' => ∀ d v H1, Ex H H1 → d ∈ ds → Dp X.K H1 v d → EvD X' elt ((wipe σ (own.map (·.2))).set j (some v)) H1 (g d))
     : ∀ H1, Ex H H1 → ∀ Q : VK, (∀ v H2, Ex H1 H2 → (∃ a xs, v = .ref a ∧ H a = none ∧ H2 a = some (.lst xs) ∧ DpAll X.K H2 xs ((ds.map g))) → Q v H2) → tLc (iTup X.K (fun σ H Q => WpX X iter σ H Q)) (gName j) tYes (fun σ' H' Q => Blk X scope fun X' => WpX X' elt σ' H' Q) (own.map (·.2)) σ H1 Q :=
    fun H1 e1 Q q => hi.run H1 e1 _ fun x H2 e2 hx => by
      obtain ⟨a, xs, rfl, ha, hxs⟩ := dp_tup hx
      have hn' : noLs (ds.map g) = true := all_noLs fun d hd => by obtain ⟨d', h1, rfl⟩ := List.mem_map.mp hd; exact hn d' h1
      have hlen := dpa_length hxs
      refine ⟨a, rfl, ⟨xs, ha⟩, fun D hD => lc_tup (g := gName j) (tt := tYes) (te := fun σ' H' Q => Blk X scope fun X' => WpX X' elt σ' H' Q) (vs := own.map (·.2)) (σ := σ) (Qd := fun H' => Q (.ref D) H') (xs := xs) (CwD X.K H2 (ds.map g) D) ⟨hD, Ex.new hD, [], upd_same, .nil⟩ (fun i H' _ p => ex_t p.2.1 ha) (fun i v H' hv p => ⟨hw v, ?_⟩) (fun H' p => ?_)⟩
      · obtain ⟨d, hd, hdv⟩ := dpa_getV hxs hv
        show Blk X scope fun X' => WpX X' elt _ H' _
        intro s0 H0 C0 cl0 fp0
        refine (he s0 H0 C0 cl0 fp0 d v H' ((e1.trans e2).trans p.2.1) (List.mem_of_getElem? hd) (dp_ex p.2.1 hdv)).run H' (Ex.refl H') _ fun yv H4 e4 hyv => ?_
        exact cwD_turn (X := X) hn' (by rw [List.length_map]; exact hz) p e4 (by rw [List.getElem?_map, hd]; rfl) hyv
      · rw [show xs.length = (ds.map g).length by rw [List.length_map]; exact hlen] at p
        exact cwD_end p fun v H3 e3 ⟨b, ys, e, n, h3, h4⟩ => q v H3 (e2.trans e3) ⟨b, ys, e, fresh_back ((e1.trans e2)) n, h3, h4⟩
theorem n_lcT {iter elt : Expr} {scope : Scope} {own : List (Str × Nat)} {y : Str} {j : Nat} {py : Pos} (g : PyData → PyData) (hc : X.calm = true) (hN : X.N.Nodup) (hi : EvD X iter σ H (.tuple ds)) (ok : BlkOk X.N X.env.scope scope own) (hj : X.N[j]? = some y) (hy : scope.names.lookup y = some .local)
    (hw : ∀ v, wipe ((wipe σ (own.map (·.2))).set j (some v)) (own.map (·.2)) = wipe σ (own.map (·.2))) (hz : ds.length ≤ 100000) (hn : ∀ d ∈ ds, noL (g d) = true)
    (he : Blk X scope fun X' => ∀ d v H1, Ex H H1 → d ∈ ds → Dp X.K H1 v d → EvD X' elt ((wipe σ (own.map (·.2))).set j (some v)) H1 (g d))
    (hs : ∀ x, foldedSetIterable iter X.env x = pure x := by intro _; rfl) : EvN X (.ListComp elt [⟨.Name y py, iter, [], 0⟩] scope pos) σ H (ds.map g) :=
  .of (pe_lc (own := own) (g := gName j) (tt := tYes) (te := fun σ' H' Q => Blk X scope fun X' => WpX X' elt σ' H' Q) hc hN (pi_tup pp) ok (fun _ _ _ _ _ => pg_name (i := j) hN hj (.inl (lookup_relabel_local hy)) (.inr (lookup_relabel_local hy))) (fun _ _ _ _ _ => pts_nil) (fun s H C cl fp => ⟨fun pins s' _ _ _ I h => h s H C cl fp pins s' I⟩) hs)
    (r_lcT (g := g) (hc := hc) (hN := hN) (hi := hi) (ok := ok) (hj := hj) (hy := hy) (hw := hw) (hz := hz) (hn := hn) (he := he))

theorem r_lcL {iter elt : Expr} {scope : Scope} {own : List (Str × Nat)} {y : Str} {j : Nat}  (g : PyData → PyData) (hc : X.calm = true) (hN : X.N.Nodup) (hi : EvD X iter σ H (.list ds)) (ok : BlkOk X.N X.env.scope scope own) (hj : X.N[j]? = some y) (hy : scope.names.lookup y = some .local)
    (hw : ∀ v, wipe ((wipe σ (own.map (·.2))).set j (some v)) (own.map (·.2)) = wipe σ (own.map (·.2))) (hz : ds.length ≤ 100000) (hn : ∀ d ∈ ds, noL (g d) = true)
    (he : Blk X scope fun X' => ∀ d v H1, Ex H H1 → d ∈ ds → Dp X.K H1 v d → EvD X' elt ((wipe σ (own.map (·.2))).set j (some v)) H1 (g d))
     : ∀ H1, Ex H H1 → ∀ Q : VK, (∀ v H2, Ex H1 H2 → (∃ a xs, v = .ref a ∧ H a = none ∧ H2 a = some (.lst xs) ∧ DpAll X.K H2 xs ((ds.map g))) → Q v H2) → tLc (iList X.K (fun σ H Q => WpX X iter σ H Q)) (gName j) tYes (fun σ' H' Q => Blk X scope fun X' => WpX X' elt σ' H' Q) (own.map (·.2)) σ H1 Q :=
    fun H1 e1 Q q => hi.run H1 e1 _ fun x H2 e2 hx => by
      obtain ⟨a, xs, rfl, ha, hxs⟩ := dp_lst hx
      have hn' : noLs (ds.map g) = true := all_noLs fun d hd => by obtain ⟨d', h1, rfl⟩ := List.mem_map.mp hd; exact hn d' h1
      have hlen := dpa_length hxs
      refine ⟨a, rfl, ⟨xs, ha⟩, fun D hD => lc_list (g := gName j) (tt := tYes) (te := fun σ' H' Q => Blk X scope fun X' => WpX X' elt σ' H' Q) (vs := own.map (·.2)) (σ := σ) (Qd := fun H' => Q (.ref D) H') (xs := xs) (CwD X.K H2 (ds.map g) D) ⟨hD, Ex.new hD, [], upd_same, .nil⟩ (fun i H' _ p => ex_l p.2.1 ha) (fun i v H' hv p => ⟨hw v, ?_⟩) (fun H' p => ?_)⟩
      · obtain ⟨d, hd, hdv⟩ := dpa_getV hxs hv
        show Blk X scope fun X' => WpX X' elt _ H' _
        intro s0 H0 C0 cl0 fp0
        refine (he s0 H0 C0 cl0 fp0 d v H' ((e1.trans e2).trans p.2.1) (List.mem_of_getElem? hd) (dp_ex p.2.1 hdv)).run H' (Ex.refl H') _ fun yv H4 e4 hyv => ?_
        exact cwD_turn (X := X) hn' (by rw [List.length_map]; exact hz) p e4 (by rw [List.getElem?_map, hd]; rfl) hyv
      · rw [show xs.length = (ds.map g).length by rw [List.length_map]; exact hlen] at p
        exact cwD_end p fun v H3 e3 ⟨b, ys, e, n, h3, h4⟩ => q v H3 (e2.trans e3) ⟨b, ys, e, fresh_back ((e1.trans e2)) n, h3, h4⟩
theorem n_lcL {iter elt : Expr} {scope : Scope} {own : List (Str × Nat)} {y : Str} {j : Nat} {py : Pos} (g : PyData → PyData) (hc : X.calm = true) (hN : X.N.Nodup) (hi : EvD X iter σ H (.list ds)) (ok : BlkOk X.N X.env.scope scope own) (hj : X.N[j]? = some y) (hy : scope.names.lookup y = some .local)
    (hw : ∀ v, wipe ((wipe σ (own.map (·.2))).set j (some v)) (own.map (·.2)) = wipe σ (own.map (·.2))) (hz : ds.length ≤ 100000) (hn : ∀ d ∈ ds, noL (g d) = true)
    (he : Blk X scope fun X' => ∀ d v H1, Ex H H1 → d ∈ ds → Dp X.K H1 v d → EvD X' elt ((wipe σ (own.map (·.2))).set j (some v)) H1 (g d))
    (hs : ∀ x, foldedSetIterable iter X.env x = pure x := by intro _; rfl) : EvN X (.ListComp elt [⟨.Name y py, iter, [], 0⟩] scope pos) σ H (ds.map g) :=
  .of (pe_lc (own := own) (g := gName j) (tt := tYes) (te := fun σ' H' Q => Blk X scope fun X' => WpX X' elt σ' H' Q) hc hN (pi_list pp) ok (fun _ _ _ _ _ => pg_name (i := j) hN hj (.inl (lookup_relabel_local hy)) (.inr (lookup_relabel_local hy))) (fun _ _ _ _ _ => pts_nil) (fun s H C cl fp => ⟨fun pins s' _ _ _ I h => h s H C cl fp pins s' I⟩) hs)
    (r_lcL (g := g) (hc := hc) (hN := hN) (hi := hi) (ok := ok) (hj := hj) (hy := hy) (hw := hw) (hz := hz) (hn := hn) (he := he))

end
/-! ### statements -/
structure BlX (X : Cx) (st : List Stmt) (σ : L2.St) (H : Hp) (D : Ends) : Prop where
  run : ∀ pins s, Inv X pins σ H s → wpAny (model X.prog X.w) X.A (execs st X.env) (SP X pins D) X.xe s
section
variable {X : Cx} {e c : Expr} {st : Stmt} {rest body orelse : List Stmt} {σ : L2.St} {H : Hp} {D : Ends} {pos p : Pos} {x : Str}
theorem BlX.pss : PSs X rest (fun D σ H => BlX X rest σ H D) := ⟨fun pins s _ _ _ I h => h.run pins s I⟩
abbrev bb : PSs X rest (fun D σ H => BlX X rest σ H D) := BlX.pss
theorem BlX.of {t : TS} (h : PSs X rest t) (q : t D σ H) : BlX X rest σ H D := ⟨fun pins s I => h.run pins s σ H D I q⟩
theorem bl_st {t : TS} (h : PS X st t) (q : t { D with nx := fun σ' H' => BlX X rest σ' H' D } σ H) : BlX X (st :: rest) σ H D := .of (pss_cons h bb) q
theorem bl_nil (h : D.nx σ H) : BlX X [] σ H D := .of pss_nil h
theorem bl_set (i : Nat) (hN : X.N.Nodup) (hi : X.N[i]? = some x) (hx : Loc X.env.scope x) (h : WpX X e σ H fun v H1 => BlX X rest (σ.set i (some v)) H1 D) (hs : swapsWith e (some (.Name x p)) pos.line X.env = pure false := by rfl)
    (hf : X.fn x = true ∨ X.env.scope.names.lookup x = some .local := by first | exact .inl rfl | exact .inr rfl) : BlX X (.Assign [.Name x p] e pos :: rest) σ H D := bl_st (ps_set (i := i) hN hi hx pp hs hf) h
theorem bl_ret (h : WpX X e σ H D.rt) : BlX X (.Return (some e) pos :: rest) σ H D := bl_st (ps_ret pp) h
theorem bl_expr (h : WpX X e σ H fun _ H1 => BlX X rest σ H1 D) (hs : swapsWith e none pos.line X.env = pure false := by rfl) : BlX X (.Expr e pos :: rest) σ H D := bl_st (ps_expr pp hs) h
theorem bl_if {k : Bool} (h : EvB X c σ H k) (h1 : k = true → ∀ H1, Ex H H1 → BlX X body σ H1 { D with nx := fun σ' H' => BlX X rest σ' H' D }) (h2 : k = false → ∀ H1, Ex H H1 → BlX X orelse σ H1 { D with nx := fun σ' H' => BlX X rest σ' H' D }) :
    BlX X (.If c body orelse pos :: rest) σ H D := bl_st (ps_if tt bb bb) (h.go fun H1 e1 => by
  cases k with
  | true => exact h1 rfl H1 e1
  | false => exact h2 rfl H1 e1)
/-- an if without else -/
theorem bl_when {k : Bool} (h : EvB X c σ H k) (h1 : k = true → ∀ H1, Ex H H1 → BlX X body σ H1 { D with nx := fun σ' H' => BlX X rest σ' H' D }) (h2 : k = false → ∀ H1, Ex H H1 → BlX X rest σ H1 D) :
    BlX X (.If c body [] pos :: rest) σ H D := bl_if h h1 fun hk H1 e1 => bl_nil (h2 hk H1 e1)
/-- l.append(e), l a name -/
theorem bl_app {i : Nat} {l : Addr} {xs : List V} {Φ : V → Hp → Prop} {pm pn : Pos} (hi : X.N[i]? = some x) (hv : Vis X.env.scope x) (hs : σ[i]? = some (some (.ref l))) (hl : H l = some (.lst xs)) (h : EvP X e σ H Φ) (hz : xs.length < 100000)
    (k : ∀ v H1, Ex H H1 → Φ v H1 → BlX X rest σ (upd H1 l (.lst (xs ++ [v]))) D) (h1 : (x == ("__debug__" : Str)) = false := by decide) (h2 : (x == ("__classdict__" : Str)) = false := by decide)
    (hb : attributeBase (.Name x pn) "append" X.env (eval (.Name x pn) X.env) = eval (.Name x pn) X.env := by rfl) (hln : (pm.endLine == p.line) = true := by rfl) (hfew : (((backTo p (starEach [e] X.env)).all fun x => !x.1) && (backToKw p (keywordEach [] X.env)).all (fun x => x.1.isSome) && decide (([e] : List Expr).length + ([] : List Keyword).length + (if ([] : List Keyword).isEmpty then 0 else 1) < 30)) = true := by rfl)
    (hst : starEach (e :: []) X.env = (false, eval e X.env) :: starEach [] X.env := by rfl) (hsw : swapsWith (.Call (.Attribute (.Name x pn) "append" pm) [e] [] p) none pos.line X.env = pure false := by rfl) :
    BlX X (.Expr (.Call (.Attribute (.Name x pn) "append" pm) [e] [] p) pos :: rest) σ H D :=
  bl_st (ps_expr (pe_bm PySem.F.plainAttrs_list PySem.F.slot_list_append PySem.F.type_list_append mt_append (pe_var (i := i) hi hv h1 h2) (pa_cons pp pa_nil hst) hb hfew hln hst) hsw)
    ⟨.ref l, hs, .inl ⟨rfl, xs, SqL.of hl⟩, h.go fun v H1 e1 hv => ⟨l, xs, v, rfl, rfl, e1 l _ hl, Nat.lt_of_lt_of_le hz (by rw [sizeLine_eq]; decide), k v H1 e1 hv⟩⟩
end
end D1
end
section
/-! loops -/
namespace D1
open PySem PySem.Spec PyProof.Rows L2 Evl W1
section
variable {X : Cx} {e c : Expr} {st : Stmt} {rest body orelse : List Stmt} {σ : L2.St} {H : Hp} {D : Ends} {pos p : Pos} {x y : Str} {ds : List PyData}
theorem bl_while (hp : PassesOwn (model X.prog X.w) X.A X.env X.xe) (W : Nat → L2.St → Hp → Prop) (m0 : Nat) (h0 : W m0 σ H)
    (hs : ∀ m σ' H', W m σ' H' → ∃ b, EvB X c σ' H' b ∧ (b = true → ∀ H1, Ex H' H1 → BlX X body σ' H1 { D with nx := fun σ2 H2 => ∃ m', m' < m ∧ W m' σ2 H2, ct := fun σ2 H2 => ∃ m', m' < m ∧ W m' σ2 H2, bk := fun σ2 H2 => BlX X rest σ2 H2 D }) ∧
      (b = false → ∀ H1, Ex H' H1 → BlX X rest σ' H1 D)) : BlX X (.While c body [] pos :: rest) σ H D :=
  bl_st (ps_while hp tt bb) ⟨W, ⟨m0, h0⟩, fun m σ' H' w => by
    obtain ⟨b, hb, ht, hf⟩ := hs m σ' H' w
    refine hb.go fun H1 e1 => ?_
    cases b with
    | true => exact ⟨_, fun _ _ q => q, ht rfl H1 e1⟩
    | false => exact hf rfl H1 e1⟩
/-- two names as a target -/
def gTwo (K : PySem.W.Frag) (i j : Nat) : TG := gTup K 2 (gCons (gName i) (gCons (gName j) gNil))
theorem gTwo_use {K : PySem.W.Frag} {i j : Nat} {a : Addr} {u v : V} {Q : L2.St → Hp → Prop} (h : SqT K H a [u, v]) (q : Q ((σ.set i (some u)).set j (some v)) H) : gTwo K i j (.ref a) σ H Q := ⟨a, [u, v], rfl, h, rfl, u, [v], rfl, v, [], rfl, rfl, q⟩
theorem pg_two {i j k : Nat} {p1 p2 : Pos} (hc : X.calm = true) (hN : X.N.Nodup) (hi : X.N[i]? = some x) (hj : X.N[j]? = some y) (hx : X.env.scope.names.lookup x = some .local) (hy : X.env.scope.names.lookup y = some .local) :
    PG X (.Tuple [.Name x p1, .Name y p2] k pos) (gTwo X.K i j) := pg_tup hc (pgs_cons (pg_name (i := i) hN hi (.inl hx) (.inr hx)) (pgs_cons (pg_name (i := j) hN hj (.inl hy) (.inr hy)) pgs_nil))
/-- for i, x in enumerate(e), e a tuple -/
theorem bl_enum {i j k : Nat} {p1 p2 p3 p4 p5 : Pos} (hp : PassesOwn (model X.prog X.w) X.A X.env X.xe) (hc : X.calm = true) (hN : X.N.Nodup) (hi : X.N[i]? = some x) (hj : X.N[j]? = some y) (hx : X.env.scope.names.lookup x = some .local) (hy : X.env.scope.names.lookup y = some .local)
    (hg : Gl X "enumerate") (hm : X.mg "enumerate" = none) (he : EvD X e σ H (.tuple ds)) (hn : noLs ds = true) (Pv : Hp → Nat → L2.St → Hp → Prop) (h0 : ∀ H1, Ex H H1 → Pv H1 0 σ H1) (hT : ∀ H1 n σ' H', Ex H H1 → Pv H1 n σ' H' → Tu X.K H1 H')
    (hs : ∀ H1 (n : Nat) d v σ' H' H2, Ex H H1 → ds[n]? = some d → Dp X.K H2 v d → Pv H1 n σ' H' → Ex H' H2 → BlX X body ((σ'.set i (some (.int (n : Int)))).set j (some v)) H2 { D with nx := Pv H1 (n + 1), ct := Pv H1 (n + 1), bk := fun σ2 H2 => BlX X rest σ2 H2 D })
    (hd : ∀ H1 σ' H', Ex H H1 → Pv H1 ds.length σ' H' → BlX X rest σ' H' D) (hst : starEach [e] X.env = [(false, eval e X.env)] := by rfl) (hfs : ∀ z, foldedSetIterable (.Call (.Name "enumerate" p4) [e] [] p5) X.env z = pure z := by intro _; rfl) :
    BlX X (.For (.Tuple [.Name x p1, .Name y p2] k p3) (.Call (.Name "enumerate" p4) [e] [] p5) body [] pos :: rest) σ H D := by
  refine bl_st (ps_for hp hc (pi_enumT hg hm aa hst) (pg_two hc hN hi hj hx hy) bb hfs) ?_
  show WaX X [e] σ H _
  have ha : EvA X [e] σ H [.tuple ds] := a_cons he a_nil (by rw [hst]; rfl)
  refine ha.run H (Ex.refl H) _ fun vs H1 e1 hvs => ?_
  cases hvs with
  | cons hv ht =>
    cases ht
    obtain ⟨a, xs, rfl, hx', hxs⟩ := dp_tup hv
    have hlen := dpa_length hxs
    refine ⟨a, xs, rfl, hx', for_enumT (g := gTwo X.K i j) (tb := fun D σ H => BlX X body σ H D) (D := { D with nx := fun σ' H' => BlX X rest σ' H' D }) (xs := xs) (Pv H1) (h0 H1 e1) (fun n σ' H' p => hT H1 n σ' H' e1 p a xs hx') (fun n v T σ' H' hv p hT0 => ?_) (fun σ' H' p => hd H1 σ' H' e1 (by rw [← hlen]; exact p))⟩
    obtain ⟨d, hd', hdv⟩ := dpa_getV hxs hv
    have nd : noL d = true := noLs_all hn d (List.mem_of_getElem? hd')
    have z : Dp X.K H' v d := dp_tu (hT H1 n σ' H' e1 p) nd hdv
    have e2 : Ex H' (upd H' T (.tup [.int (n : Nat), v])) := Ex.new hT0
    exact gTwo_use (st_of upd_same) (hs H1 n d v σ' H' _ e1 hd' (dp_ex e2 z) p e2)
/-- for x in e, e a tuple -/
theorem bl_forT {tg : Expr} {g : TG} (hp : PassesOwn (model X.prog X.w) X.A X.env X.xe) (hc : X.calm = true) (hg : PG X tg g) (he : EvD X e σ H (.tuple ds)) (hn : noLs ds = true) (Pv : Hp → Nat → L2.St → Hp → Prop) (h0 : ∀ H1, Ex H H1 → Pv H1 0 σ H1) (hT : ∀ H1 n σ' H', Ex H H1 → Pv H1 n σ' H' → Tu X.K H1 H')
    (hs : ∀ H1 (n : Nat) d v σ' H', Ex H H1 → ds[n]? = some d → Dp X.K H' v d → Pv H1 n σ' H' → g v σ' H' fun σ2 H2 => BlX X body σ2 H2 { D with nx := Pv H1 (n + 1), ct := Pv H1 (n + 1), bk := fun σ2 H2 => BlX X rest σ2 H2 D })
    (hd : ∀ H1 σ' H', Ex H H1 → Pv H1 ds.length σ' H' → BlX X rest σ' H' D) (hfs : ∀ z, foldedSetIterable e X.env z = pure z := by intro _; rfl) :
    BlX X (.For tg e body [] pos :: rest) σ H D := by
  refine bl_st (ps_for hp hc (pi_tup pp) hg bb hfs) ?_
  refine he.run H (Ex.refl H) _ fun v H1 e1 hv => ?_
  obtain ⟨a, xs, rfl, hx', hxs⟩ := dp_tup hv
  have hlen := dpa_length hxs
  refine ⟨a, rfl, ⟨xs, hx'⟩, for_tup (g := g) (tb := fun D σ H => BlX X body σ H D) (D := { D with nx := fun σ' H' => BlX X rest σ' H' D }) (xs := xs) (Pv H1) (h0 H1 e1) (fun n σ' H' _ p => hT H1 n σ' H' e1 p a xs hx') (fun n v σ' H' hv p => ?_) (fun σ' H' p => hd H1 σ' H' e1 (by rw [← hlen]; exact p))⟩
  obtain ⟨d, hd', hdv⟩ := dpa_getV hxs hv
  have nd : noL d = true := noLs_all hn d (List.mem_of_getElem? hd')
  exact hs H1 n d v σ' H' e1 hd' (dp_tu (hT H1 n σ' H' e1 p) nd hdv) p
end
end D1
end
section
/-! raise -/
namespace D1
open PySem PySem.Spec PyProof.Rows L2 Evl W1
/-- the error class x: one field f, set by its __init__ -/
def Er (K : PySem.W.Frag) (mg : Str → Option Value) (x f : Str) : Prop :=
  mg x = some (.ref (He.ga K x)) ∧ ∃ fI qual params body scope B newId initId bmB, _root_.WX.ExcI K (He.ga K x) fI f qual params body scope B newId initId bmB
/-- the error class x: no __init__ -/
structure Er0 (K : PySem.W.Frag) (mg : Str → Option Value) (x : Str) : Prop where
  m : mg x = some (.ref (He.ga K x))
  kp : PySem.W.keepIn K (.ref (He.ga K x)) = true
  ex : ∃ (B : String) (newId initId : String) (bmB : List Value), ExcBaseFacts B newId initId bmB ∧ PySem.W.excIn K (He.ga K x) bmB newId = true
  exC : PySem.W.subIn K (.ref (He.ga K x)) (.type "BaseException") = some true
  tyC : PySem.W.typeIn K (.ref (He.ga K x)) = some (.type "type")
def Rs (K : PySem.W.Frag) (H : Hp) (E : XK) (x f : Str) (dv : PyData) : Prop := ∀ dd v H', Ex H H' → H' dd = some (.xd [(f, v)]) → Dp K H' v dv → E (.ref (He.ga K x)) (some dd) H'
def Rs0 (K : PySem.W.Frag) (H : Hp) (E : XK) (x : Str) : Prop := ∀ H', Ex H H' → E (.ref (He.ga K x)) none H'
theorem Rs.ex {K : PySem.W.Frag} {H H1 : Hp} {E : XK} {x f : Str} {dv : PyData} (r : Rs K H E x f dv) (e : Ex H H1) : Rs K H1 E x f dv := fun dd v H' e' a b => r dd v H' (e.trans e') a b
theorem Rs0.ex {K : PySem.W.Frag} {H H1 : Hp} {E : XK} {x : Str} (r : Rs0 K H E x) (e : Ex H H1) : Rs0 K H1 E x := fun H' e' => r H' (e.trans e')
section
variable {X : Cx} {a : Expr} {rest : List Stmt} {σ : L2.St} {H : Hp} {D : Ends} {pos p p2 : Pos} {x f : Str} {dv : PyData} {E : XK}
theorem bl_raise1 (tk : L2N.Takes X fun cls d _ H => E cls d H) (hc : X.calm = true) (C : Er X.K X.mg x f) (hr : Room k X.A) (hg : Gl X x) (ha : EvD X a σ H dv) (h : Rs X.K H E x f dv) (hdb : (x == ("__debug__" : Str)) = false := by decide)
    (he : starEach (a :: []) X.env = (false, eval a X.env) :: starEach [] X.env := by rfl) (hpl : (backTo p2 (starEach [] X.env)).any (·.1) = false := by rfl) : BlX X (.Raise (some (.Call (.Name x p) [a] [] p2)) none pos :: rest) σ H D := by
  obtain ⟨gC, fI, qual, params, body, scope, B, newId, initId, bmB, T⟩ := C
  refine bl_st (L2N.ps_raise hc tk (pmk_I T gC hr aa hg hdb he hpl)) ?_
  have hA : EvA X [a] σ H [dv] := a_cons ha a_nil he
  refine hA.run H (Ex.refl H) _ fun vs H1 e1 hvs => ?_
  cases hvs with
  | cons hv ht =>
    cases ht
    exact ⟨_, rfl, fun d hd => h d _ _ (e1.trans (Ex.new hd)) upd_same (dp_ex (Ex.new hd) hv)⟩
theorem bl_raise0 (tk : L2N.Takes X fun cls d _ H => E cls d H) (hc : X.calm = true) (C : Er0 X.K X.mg x) (hg : Gl X x) (h : Rs0 X.K H E x) (hdb : (x == ("__debug__" : Str)) = false := by decide) : BlX X (.Raise (some (.Call (.Name x p) [] [] p2)) none pos :: rest) σ H D := by
  obtain ⟨B, newId, initId, bmB, F, q⟩ := C.ex
  refine bl_st (L2N.ps_raise hc tk (pmk_0 F q C.m C.kp (raises_own C.exC C.tyC) hg hdb)) ?_
  exact h H (Ex.refl H)
end
end D1
end
section
/-! comprehensions over pairs -/
namespace D1
open PySem PySem.Spec PyProof.Rows L2 Evl W1
section
variable {X : Cx} {e a b c elt : Expr} {es : List Expr} {σ : L2.St} {H H' : Hp} {ds fs : List PyData} {pos p p1 p2 p3 p4 : Pos} {x y : Str} {scope : Scope} {own : List (Str × Nat)} {i j k : Nat}
/-- the turn's part that all share -/
theorem zip_at {g : PyData → PyData → PyData} {n : Nat} {d f : PyData} (h1 : ds[n]? = some d) (h2 : fs[n]? = some f) : (((ds.zip fs).map fun p => g p.1 p.2))[n]? = some (g d f) := by
  have z : (ds.zip fs)[n]? = some (d, f) := List.getElem?_zip_eq_some.mpr ⟨h1, h2⟩
  rw [List.getElem?_map, z]
  rfl
theorem r_lcZT (g : PyData → PyData → PyData) (hc : X.calm = true) (hN : X.N.Nodup) (hg : Gl X "zip") (hm : X.mg "zip" = none) (ha : EvD X a σ H (.tuple ds)) (hb : EvD X b σ H (.tuple fs)) (ok : BlkOk X.N X.env.scope scope own) (hi : X.N[i]? = some x) (hj : X.N[j]? = some y)
    (hx : scope.names.lookup x = some .local) (hy : scope.names.lookup y = some .local) (hw : ∀ u v, wipe (((wipe σ (own.map (·.2))).set i (some u)).set j (some v)) (own.map (·.2)) = wipe σ (own.map (·.2))) (hz : ds.length ≤ 100000)
    (hn : ∀ d f, (d, f) ∈ ds.zip fs → noL (g d f) = true)
    (he : Blk X scope fun X' => ∀ d f u v H1, Ex H H1 → (d, f) ∈ ds.zip fs → Dp X.K H1 u d → Dp X.K H1 v f → EvD X' elt (((wipe σ (own.map (·.2))).set i (some u)).set j (some v)) H1 (g d f))
    (hs1 : starEach [a, b] X.env = (false, eval a X.env) :: starEach [b] X.env := by rfl) (hs2 : starEach [b] X.env = (false, eval b X.env) :: starEach [] X.env := by rfl) 
     : ∀ H1, Ex H H1 → ∀ Q : VK, (∀ v H2, Ex H1 H2 → (∃ a xs, v = .ref a ∧ H a = none ∧ H2 a = some (.lst xs) ∧ DpAll X.K H2 xs (((ds.zip fs).map fun p => g p.1 p.2))) → Q v H2) → tLc (RZ.iZipA X.K (fun σ H Q => WaX X [a, b] σ H Q)) (gTwo X.K i j) tYes (fun σ' H' Q => Blk X scope fun X' => WpX X' elt σ' H' Q) (own.map (·.2)) σ H1 Q :=
    fun H1 e1 Q q => (a_cons ha (a_cons hb a_nil hs2) hs1).run H1 e1 _ fun vs H2 e2 hvs => by
      obtain ⟨va, vb, rfl, hva, hvb⟩ : ∃ va vb, vs = [va, vb] ∧ Dp X.K H2 va (.tuple ds) ∧ Dp X.K H2 vb (.tuple fs) := by
        cases hvs with | cons h1 t => cases t with | cons h2 t => cases t; exact ⟨_, _, rfl, h1, h2⟩
      obtain ⟨a1, xs, rfl, hxa, hxs⟩ := dp_tup hva
      obtain ⟨a2, ys, rfl, hya, hys⟩ := dp_tup hvb
      have l1 := dpa_length hxs
      have l2 := dpa_length hys
      have hR : ((ds.zip fs).map fun p => g p.1 p.2).length = min xs.length ys.length := by rw [List.length_map, List.length_zip, l1, l2]
      have hn' : noLs ((ds.zip fs).map fun p => g p.1 p.2) = true := all_noLs fun d hd => by obtain ⟨⟨d', f'⟩, h1, rfl⟩ := List.mem_map.mp hd; exact hn d' f' h1
      refine ⟨a1, a2, xs, ys, rfl, .inr ⟨hxa, hya, fun D hD => lc_n (J := RZ.ItzT X.K a1 a2) (n := min xs.length ys.length) (g := gTwo X.K i j) (tt := tYes) (te := fun σ' H' Q => Blk X scope fun X' => WpX X' elt σ' H' Q) (vs := own.map (·.2)) (σ := σ) (Qd := fun H' => Q (.ref D) H')
        (CwD X.K H2 ((ds.zip fs).map fun p => g p.1 p.2) D) ⟨hD, Ex.new hD, [], upd_same, .nil⟩ (fun n H' hlt p => ?_) (fun H' p => ⟨xs, ys, ex_t p.2.1 hxa, ex_t p.2.1 hya, by omega⟩) (fun n v H' H'' hlt p hy => ?_) (fun H' p => ?_)⟩⟩
      · have h1 : n < xs.length := by omega
        have h2 : n < ys.length := by omega
        exact ⟨xs, ys, _, _, ex_t p.2.1 hxa, ex_t p.2.1 hya, List.getElem?_eq_getElem h1, List.getElem?_eq_getElem h2⟩
      · obtain ⟨T, u, v', rfl, hT, rfl, f1, f2⟩ := hy
        have hu := f1 xs (ex_t p.2.1 hxa)
        have hv := f2 ys (ex_t p.2.1 hya)
        obtain ⟨d, hd, hdu⟩ := dpa_getV hxs hu
        obtain ⟨f, hf, hfv⟩ := dpa_getV hys hv
        have eT : Ex H' (upd H' T (.tup [u, v'])) := Ex.new hT
        have hmem : (d, f) ∈ ds.zip fs := List.mem_of_getElem? (List.getElem?_zip_eq_some.mpr ⟨hd, hf⟩)
        refine gTwo_use (st_of upd_same) ⟨hw u v', ?_⟩
        show Blk X scope fun X' => WpX X' elt _ _ _
        intro s0 H0 C0 cl0 fp0
        refine (he s0 H0 C0 cl0 fp0 d f u v' _ (((e1.trans e2).trans p.2.1).trans eT) hmem (dp_ex (p.2.1.trans eT) hdu) (dp_ex (p.2.1.trans eT) hfv)).run _ (Ex.refl _) _ fun yv H4 e4 hyv => ?_
        exact cwD_turn (X := X) hn' (by rw [List.length_map, List.length_zip]; omega) p (eT.trans e4) (zip_at hd hf) hyv
      · rw [← hR] at p
        exact cwD_end p fun v H3 e3 ⟨b, ys, e, n, h3, h4⟩ => q v H3 (e2.trans e3) ⟨b, ys, e, fresh_back (e1.trans e2) n, h3, h4⟩
theorem n_lcZT (g : PyData → PyData → PyData) (hc : X.calm = true) (hN : X.N.Nodup) (hg : Gl X "zip") (hm : X.mg "zip" = none) (ha : EvD X a σ H (.tuple ds)) (hb : EvD X b σ H (.tuple fs)) (ok : BlkOk X.N X.env.scope scope own) (hi : X.N[i]? = some x) (hj : X.N[j]? = some y)
    (hx : scope.names.lookup x = some .local) (hy : scope.names.lookup y = some .local) (hw : ∀ u v, wipe (((wipe σ (own.map (·.2))).set i (some u)).set j (some v)) (own.map (·.2)) = wipe σ (own.map (·.2))) (hz : ds.length ≤ 100000)
    (hn : ∀ d f, (d, f) ∈ ds.zip fs → noL (g d f) = true)
    (he : Blk X scope fun X' => ∀ d f u v H1, Ex H H1 → (d, f) ∈ ds.zip fs → Dp X.K H1 u d → Dp X.K H1 v f → EvD X' elt (((wipe σ (own.map (·.2))).set i (some u)).set j (some v)) H1 (g d f))
    (hs1 : starEach [a, b] X.env = (false, eval a X.env) :: starEach [b] X.env := by rfl) (hs2 : starEach [b] X.env = (false, eval b X.env) :: starEach [] X.env := by rfl) (hpl : (backTo p4 (starEach [b] X.env)).any (·.1) = false := by rfl)
    (hs : ∀ z, foldedSetIterable (.Call (.Name "zip" p3) [a, b] [] p4) X.env z = pure z := by intro _; rfl) :
    EvN X (.ListComp elt [⟨.Tuple [.Name x p1, .Name y p2] k p, .Call (.Name "zip" p3) [a, b] [] p4, [], 0⟩] scope pos) σ H ((ds.zip fs).map fun p => g p.1 p.2) :=
  .of (pe_lc (own := own) (g := gTwo X.K i j) (tt := tYes) (te := fun σ' H' Q => Blk X scope fun X' => WpX X' elt σ' H' Q) hc hN (RZ.pi_zipA hg hm aa hs1 hpl) ok (fun _ _ _ _ _ => pg_two hc hN hi hj (lookup_relabel_local hx) (lookup_relabel_local hy)) (fun _ _ _ _ _ => pts_nil) (fun s H C cl fp => ⟨fun pins s' _ _ _ I h => h s H C cl fp pins s' I⟩) hs)
    (r_lcZT (g := g) (hc := hc) (hN := hN) (hg := hg) (hm := hm) (ha := ha) (hb := hb) (ok := ok) (hi := hi) (hj := hj) (hx := hx) (hy := hy) (hw := hw) (hz := hz) (hn := hn) (he := he) (hs1 := hs1) (hs2 := hs2))

theorem r_lcZM (g : PyData → PyData → PyData) (hc : X.calm = true) (hN : X.N.Nodup) (hg : Gl X "zip") (hm : X.mg "zip" = none) (ha : EvD X a σ H (.tuple ds)) (hb : EvD X b σ H (.list fs)) (hlen : ds.length = fs.length) (ok : BlkOk X.N X.env.scope scope own) (hi : X.N[i]? = some x) (hj : X.N[j]? = some y)
    (hx : scope.names.lookup x = some .local) (hy : scope.names.lookup y = some .local) (hw : ∀ u v, wipe (((wipe σ (own.map (·.2))).set i (some u)).set j (some v)) (own.map (·.2)) = wipe σ (own.map (·.2))) (hz : ds.length ≤ 100000)
    (hn : ∀ d f, (d, f) ∈ ds.zip fs → noL (g d f) = true)
    (he : Blk X scope fun X' => ∀ d f u v H1, Ex H H1 → (d, f) ∈ ds.zip fs → Dp X.K H1 u d → Dp X.K H1 v f → EvD X' elt (((wipe σ (own.map (·.2))).set i (some u)).set j (some v)) H1 (g d f))
    (hs1 : starEach [a, b] X.env = (false, eval a X.env) :: starEach [b] X.env := by rfl) (hs2 : starEach [b] X.env = (false, eval b X.env) :: starEach [] X.env := by rfl) 
     : ∀ H1, Ex H H1 → ∀ Q : VK, (∀ v H2, Ex H1 H2 → (∃ a xs, v = .ref a ∧ H a = none ∧ H2 a = some (.lst xs) ∧ DpAll X.K H2 xs (((ds.zip fs).map fun p => g p.1 p.2))) → Q v H2) → tLc (iZipM X.K (fun σ H Q => WaX X [a, b] σ H Q)) (gTwo X.K i j) tYes (fun σ' H' Q => Blk X scope fun X' => WpX X' elt σ' H' Q) (own.map (·.2)) σ H1 Q :=
    fun H1 e1 Q q => (a_cons ha (a_cons hb a_nil hs2) hs1).run H1 e1 _ fun vs H2 e2 hvs => by
      obtain ⟨va, vb, rfl, hva, hvb⟩ : ∃ va vb, vs = [va, vb] ∧ Dp X.K H2 va (.tuple ds) ∧ Dp X.K H2 vb (.list fs) := by
        cases hvs with | cons h1 t => cases t with | cons h2 t => cases t; exact ⟨_, _, rfl, h1, h2⟩
      obtain ⟨a1, xs, rfl, hxa, hxs⟩ := dp_tup hva
      obtain ⟨a2, ys, rfl, hya, hys⟩ := dp_lst hvb
      have l1 := dpa_length hxs
      have l2 := dpa_length hys
      have hR : ((ds.zip fs).map fun p => g p.1 p.2).length = xs.length := by rw [List.length_map, List.length_zip, l1]; omega
      have hn' : noLs ((ds.zip fs).map fun p => g p.1 p.2) = true := all_noLs fun d hd => by obtain ⟨⟨d', f'⟩, h1, rfl⟩ := List.mem_map.mp hd; exact hn d' f' h1
      refine ⟨a1, a2, xs, ys, rfl, hxa, hya, fun D hD => lc_n (J := ItzM X.K a1 a2) (n := xs.length) (g := gTwo X.K i j) (tt := tYes) (te := fun σ' H' Q => Blk X scope fun X' => WpX X' elt σ' H' Q) (vs := own.map (·.2)) (σ := σ) (Qd := fun H' => Q (.ref D) H')
        (CwD X.K H2 ((ds.zip fs).map fun p => g p.1 p.2) D) ⟨hD, Ex.new hD, [], upd_same, .nil⟩ (fun n H' hlt p => ?_) (fun H' p => ⟨xs, ys, ex_t p.2.1 hxa, ex_l p.2.1 hya, rfl, by omega⟩) (fun n v H' H'' hlt p hy => ?_) (fun H' p => ?_)⟩
      · have h2 : n < ys.length := by omega
        exact ⟨xs, ys, _, _, ex_t p.2.1 hxa, ex_l p.2.1 hya, List.getElem?_eq_getElem hlt, List.getElem?_eq_getElem h2⟩
      · obtain ⟨T, u, v', rfl, hT, rfl, f1, f2⟩ := hy
        have hu := f1 xs (ex_t p.2.1 hxa)
        have hv := f2 ys (ex_l p.2.1 hya)
        obtain ⟨d, hd, hdu⟩ := dpa_getV hxs hu
        obtain ⟨f, hf, hfv⟩ := dpa_getV hys hv
        have eT : Ex H' (upd H' T (.tup [u, v'])) := Ex.new hT
        have hmem : (d, f) ∈ ds.zip fs := List.mem_of_getElem? (List.getElem?_zip_eq_some.mpr ⟨hd, hf⟩)
        refine gTwo_use (st_of upd_same) ⟨hw u v', ?_⟩
        show Blk X scope fun X' => WpX X' elt _ _ _
        intro s0 H0 C0 cl0 fp0
        refine (he s0 H0 C0 cl0 fp0 d f u v' _ (((e1.trans e2).trans p.2.1).trans eT) hmem (dp_ex (p.2.1.trans eT) hdu) (dp_ex (p.2.1.trans eT) hfv)).run _ (Ex.refl _) _ fun yv H4 e4 hyv => ?_
        exact cwD_turn (X := X) hn' (by rw [List.length_map, List.length_zip]; omega) p (eT.trans e4) (zip_at hd hf) hyv
      · rw [← hR] at p
        exact cwD_end p fun v H3 e3 ⟨b, ys, e, n, h3, h4⟩ => q v H3 (e2.trans e3) ⟨b, ys, e, fresh_back (e1.trans e2) n, h3, h4⟩
theorem n_lcZM (g : PyData → PyData → PyData) (hc : X.calm = true) (hN : X.N.Nodup) (hg : Gl X "zip") (hm : X.mg "zip" = none) (ha : EvD X a σ H (.tuple ds)) (hb : EvD X b σ H (.list fs)) (hlen : ds.length = fs.length) (ok : BlkOk X.N X.env.scope scope own) (hi : X.N[i]? = some x) (hj : X.N[j]? = some y)
    (hx : scope.names.lookup x = some .local) (hy : scope.names.lookup y = some .local) (hw : ∀ u v, wipe (((wipe σ (own.map (·.2))).set i (some u)).set j (some v)) (own.map (·.2)) = wipe σ (own.map (·.2))) (hz : ds.length ≤ 100000)
    (hn : ∀ d f, (d, f) ∈ ds.zip fs → noL (g d f) = true)
    (he : Blk X scope fun X' => ∀ d f u v H1, Ex H H1 → (d, f) ∈ ds.zip fs → Dp X.K H1 u d → Dp X.K H1 v f → EvD X' elt (((wipe σ (own.map (·.2))).set i (some u)).set j (some v)) H1 (g d f))
    (hs1 : starEach [a, b] X.env = (false, eval a X.env) :: starEach [b] X.env := by rfl) (hs2 : starEach [b] X.env = (false, eval b X.env) :: starEach [] X.env := by rfl) (hpl : (backTo p4 (starEach [b] X.env)).any (·.1) = false := by rfl)
    (hs : ∀ z, foldedSetIterable (.Call (.Name "zip" p3) [a, b] [] p4) X.env z = pure z := by intro _; rfl) :
    EvN X (.ListComp elt [⟨.Tuple [.Name x p1, .Name y p2] k p, .Call (.Name "zip" p3) [a, b] [] p4, [], 0⟩] scope pos) σ H ((ds.zip fs).map fun p => g p.1 p.2) :=
  .of (pe_lc (own := own) (g := gTwo X.K i j) (tt := tYes) (te := fun σ' H' Q => Blk X scope fun X' => WpX X' elt σ' H' Q) hc hN (pi_zipM hg hm aa hs1 hpl) ok (fun _ _ _ _ _ => pg_two hc hN hi hj (lookup_relabel_local hx) (lookup_relabel_local hy)) (fun _ _ _ _ _ => pts_nil) (fun s H C cl fp => ⟨fun pins s' _ _ _ I h => h s H C cl fp pins s' I⟩) hs)
    (r_lcZM (g := g) (hc := hc) (hN := hN) (hg := hg) (hm := hm) (ha := ha) (hb := hb) (hlen := hlen) (ok := ok) (hi := hi) (hj := hj) (hx := hx) (hy := hy) (hw := hw) (hz := hz) (hn := hn) (he := he) (hs1 := hs1) (hs2 := hs2))

/-- over a tuple of pairs -/
theorem r_lcT2 {iter : Expr} (g : PyData → PyData → PyData) {qs : List (PyData × PyData)} (hc : X.calm = true) (hN : X.N.Nodup) (ha : EvD X iter σ H (.tuple (qs.map fun q => .tuple [q.1, q.2]))) (ok : BlkOk X.N X.env.scope scope own) (hi : X.N[i]? = some x) (hj : X.N[j]? = some y)
    (hx : scope.names.lookup x = some .local) (hy : scope.names.lookup y = some .local) (hw : ∀ u v, wipe (((wipe σ (own.map (·.2))).set i (some u)).set j (some v)) (own.map (·.2)) = wipe σ (own.map (·.2))) (hz : qs.length ≤ 100000)
    (hn : ∀ q ∈ qs, noL (g q.1 q.2) = true)
    (he : Blk X scope fun X' => ∀ d f u v H1, Ex H H1 → (d, f) ∈ qs → Dp X.K H1 u d → Dp X.K H1 v f → EvD X' elt (((wipe σ (own.map (·.2))).set i (some u)).set j (some v)) H1 (g d f))
     : ∀ H1, Ex H H1 → ∀ Q : VK, (∀ v H2, Ex H1 H2 → (∃ a xs, v = .ref a ∧ H a = none ∧ H2 a = some (.lst xs) ∧ DpAll X.K H2 xs ((qs.map fun q => g q.1 q.2))) → Q v H2) → tLc (iTup X.K (fun σ H Q => WpX X iter σ H Q)) (gTwo X.K i j) tYes (fun σ' H' Q => Blk X scope fun X' => WpX X' elt σ' H' Q) (own.map (·.2)) σ H1 Q :=
    fun H1 e1 Q q => ha.run H1 e1 _ fun va H2 e2 hva => by
      obtain ⟨a1, xs, rfl, hxa, hxs⟩ := dp_tup hva
      have l1 := dpa_length hxs
      rw [List.length_map] at l1
      have hR : (qs.map fun q => g q.1 q.2).length = xs.length := by rw [List.length_map, l1]
      have hn' : noLs (qs.map fun q => g q.1 q.2) = true := all_noLs fun d hd => by obtain ⟨q', h1, rfl⟩ := List.mem_map.mp hd; exact hn q' h1
      refine ⟨a1, rfl, ⟨xs, hxa⟩, fun D hD => lc_tup (g := gTwo X.K i j) (tt := tYes) (te := fun σ' H' Q => Blk X scope fun X' => WpX X' elt σ' H' Q) (vs := own.map (·.2)) (σ := σ) (Qd := fun H' => Q (.ref D) H') (xs := xs)
        (CwD X.K H2 (qs.map fun q => g q.1 q.2) D) ⟨hD, Ex.new hD, [], upd_same, .nil⟩ (fun n H' _ p => ex_t p.2.1 hxa) (fun n v H' hv p => ?_) (fun H' p => ?_)⟩
      · obtain ⟨d0, hd0, hdv⟩ := dpa_getV hxs hv
        rw [List.getElem?_map] at hd0
        cases hq : qs[n]? with
        | none => rw [hq] at hd0; cases hd0
        | some q0 =>
          rw [hq] at hd0
          obtain ⟨d, f⟩ := q0
          cases (show _ = _ from Option.some.inj hd0)
          obtain ⟨a2, zs, rfl, hza, hzs⟩ := dp_tup (dp_ex p.2.1 hdv)
          obtain ⟨u, v', rfl, hu, hv'⟩ : ∃ u v, zs = [u, v] ∧ Dp X.K H' u d ∧ Dp X.K H' v f := by
            cases hzs with | cons h1 t => cases t with | cons h2 t => cases t; exact ⟨_, _, rfl, h1, h2⟩
          refine gTwo_use hza ⟨hw u v', ?_⟩
          show Blk X scope fun X' => WpX X' elt _ _ _
          intro s0 H0 C0 cl0 fp0
          refine (he s0 H0 C0 cl0 fp0 d f u v' _ ((e1.trans e2).trans p.2.1) (List.mem_of_getElem? hq) hu hv').run _ (Ex.refl _) _ fun yv H4 e4 hyv => ?_
          exact cwD_turn (X := X) hn' (by rw [List.length_map]; exact hz) p e4 (by rw [List.getElem?_map, hq]; rfl) hyv
      · rw [← hR] at p
        exact cwD_end p fun v H3 e3 ⟨b, ys, e, n, h3, h4⟩ => q v H3 (e2.trans e3) ⟨b, ys, e, fresh_back (e1.trans e2) n, h3, h4⟩
theorem n_lcT2 {iter : Expr} (g : PyData → PyData → PyData) {qs : List (PyData × PyData)} (hc : X.calm = true) (hN : X.N.Nodup) (ha : EvD X iter σ H (.tuple (qs.map fun q => .tuple [q.1, q.2]))) (ok : BlkOk X.N X.env.scope scope own) (hi : X.N[i]? = some x) (hj : X.N[j]? = some y)
    (hx : scope.names.lookup x = some .local) (hy : scope.names.lookup y = some .local) (hw : ∀ u v, wipe (((wipe σ (own.map (·.2))).set i (some u)).set j (some v)) (own.map (·.2)) = wipe σ (own.map (·.2))) (hz : qs.length ≤ 100000)
    (hn : ∀ q ∈ qs, noL (g q.1 q.2) = true)
    (he : Blk X scope fun X' => ∀ d f u v H1, Ex H H1 → (d, f) ∈ qs → Dp X.K H1 u d → Dp X.K H1 v f → EvD X' elt (((wipe σ (own.map (·.2))).set i (some u)).set j (some v)) H1 (g d f))
    (hs : ∀ z, foldedSetIterable iter X.env z = pure z := by intro _; rfl) :
    EvN X (.ListComp elt [⟨.Tuple [.Name x p1, .Name y p2] k p, iter, [], 0⟩] scope pos) σ H (qs.map fun q => g q.1 q.2) :=
  .of (pe_lc (own := own) (g := gTwo X.K i j) (tt := tYes) (te := fun σ' H' Q => Blk X scope fun X' => WpX X' elt σ' H' Q) hc hN (pi_tup pp) ok (fun _ _ _ _ _ => pg_two hc hN hi hj (lookup_relabel_local hx) (lookup_relabel_local hy)) (fun _ _ _ _ _ => pts_nil) (fun s H C cl fp => ⟨fun pins s' _ _ _ I h => h s H C cl fp pins s' I⟩) hs)
    (r_lcT2 (g := g) (hc := hc) (hN := hN) (ha := ha) (ok := ok) (hi := hi) (hj := hj) (hx := hx) (hy := hy) (hw := hw) (hz := hz) (hn := hn) (he := he))

end
end D1
end
section
/-! comprehensions given a name at once -/
namespace D1
open PySem PySem.Spec PyProof.Rows L2 Evl W1
section
variable {X : Cx} {e a b c elt : Expr} {es : List Expr} {σ : L2.St} {H H' : Hp} {ds fs : List PyData} {pos p p1 p2 p3 p4 : Pos} {x y : Str} {scope : Scope} {own : List (Str × Nat)} {i j k : Nat}
theorem s_lcT {z : Str} {pz spos : Pos} {rest : List Stmt} {D : Ends} (iz : Nat) (hz0 : X.N[iz]? = some z) (hzl : X.env.scope.names.lookup z = some .local) {iter : Expr} {py : Pos} (g : PyData → PyData) (hc : X.calm = true) (hN : X.N.Nodup) (hi : EvD X iter σ H (.tuple ds)) (ok : BlkOk X.N X.env.scope scope own) (hj : X.N[j]? = some y) (hy : scope.names.lookup y = some .local)
    (hw : ∀ v, wipe ((wipe σ (own.map (·.2))).set j (some v)) (own.map (·.2)) = wipe σ (own.map (·.2))) (hz : ds.length ≤ 100000) (hn : ∀ d ∈ ds, noL (g d) = true)
    (he : Blk X scope fun X' => ∀ d v H1, Ex H H1 → d ∈ ds → Dp X.K H1 v d → EvD X' elt ((wipe σ (own.map (·.2))).set j (some v)) H1 (g d))
    (hs : ∀ x, foldedSetIterable iter X.env x = pure x := by intro _; rfl) (kk : ∀ a xs H1, Ex H H1 → H a = none → H1 a = some (.lst xs) → DpAll X.K H1 xs ((ds.map g)) → BlX X rest (σ.set iz (some (.ref a))) H1 D) (hsw : swapsWith (.ListComp elt [⟨.Name y py, iter, [], 0⟩] scope pos) (some (.Name z pz)) spos.line X.env = pure true := by exact sw_true rfl rfl rfl (by decide +kernel)) : BlX X (.Assign [.Name z pz] (.ListComp elt [⟨.Name y py, iter, [], 0⟩] scope pos) spos :: rest) σ H D :=
  bl_st (ps_setLc (own := own) (g := gName j) (tt := tYes) (te := fun σ' H' Q => Blk X scope fun X' => WpX X' elt σ' H' Q) hc hN hz0 hzl hsw (pi_tup pp) ok (fun _ _ _ _ _ => pg_name (i := j) hN hj (.inl (lookup_relabel_local hy)) (.inr (lookup_relabel_local hy))) (fun _ _ _ _ _ => pts_nil) (fun s H C cl fp => ⟨fun pins s' _ _ _ I h => h s H C cl fp pins s' I⟩) hs)
    (r_lcT (g := g) (hc := hc) (hN := hN) (hi := hi) (ok := ok) (hj := hj) (hy := hy) (hw := hw) (hz := hz) (hn := hn) (he := he) H (Ex.refl H) _ fun v H1 e1 ⟨a, xs, e, h0, h1, h2⟩ => by rw [e]; exact kk a xs H1 e1 h0 h1 h2)

theorem s_lcL {z : Str} {pz spos : Pos} {rest : List Stmt} {D : Ends} (iz : Nat) (hz0 : X.N[iz]? = some z) (hzl : X.env.scope.names.lookup z = some .local) {iter : Expr} {py : Pos} (g : PyData → PyData) (hc : X.calm = true) (hN : X.N.Nodup) (hi : EvD X iter σ H (.list ds)) (ok : BlkOk X.N X.env.scope scope own) (hj : X.N[j]? = some y) (hy : scope.names.lookup y = some .local)
    (hw : ∀ v, wipe ((wipe σ (own.map (·.2))).set j (some v)) (own.map (·.2)) = wipe σ (own.map (·.2))) (hz : ds.length ≤ 100000) (hn : ∀ d ∈ ds, noL (g d) = true)
    (he : Blk X scope fun X' => ∀ d v H1, Ex H H1 → d ∈ ds → Dp X.K H1 v d → EvD X' elt ((wipe σ (own.map (·.2))).set j (some v)) H1 (g d))
    (hs : ∀ x, foldedSetIterable iter X.env x = pure x := by intro _; rfl) (kk : ∀ a xs H1, Ex H H1 → H a = none → H1 a = some (.lst xs) → DpAll X.K H1 xs ((ds.map g)) → BlX X rest (σ.set iz (some (.ref a))) H1 D) (hsw : swapsWith (.ListComp elt [⟨.Name y py, iter, [], 0⟩] scope pos) (some (.Name z pz)) spos.line X.env = pure true := by exact sw_true rfl rfl rfl (by decide +kernel)) : BlX X (.Assign [.Name z pz] (.ListComp elt [⟨.Name y py, iter, [], 0⟩] scope pos) spos :: rest) σ H D :=
  bl_st (ps_setLc (own := own) (g := gName j) (tt := tYes) (te := fun σ' H' Q => Blk X scope fun X' => WpX X' elt σ' H' Q) hc hN hz0 hzl hsw (pi_list pp) ok (fun _ _ _ _ _ => pg_name (i := j) hN hj (.inl (lookup_relabel_local hy)) (.inr (lookup_relabel_local hy))) (fun _ _ _ _ _ => pts_nil) (fun s H C cl fp => ⟨fun pins s' _ _ _ I h => h s H C cl fp pins s' I⟩) hs)
    (r_lcL (g := g) (hc := hc) (hN := hN) (hi := hi) (ok := ok) (hj := hj) (hy := hy) (hw := hw) (hz := hz) (hn := hn) (he := he) H (Ex.refl H) _ fun v H1 e1 ⟨a, xs, e, h0, h1, h2⟩ => by rw [e]; exact kk a xs H1 e1 h0 h1 h2)

theorem s_lcZT {z : Str} {pz spos : Pos} {rest : List Stmt} {D : Ends} (iz : Nat) (hz0 : X.N[iz]? = some z) (hzl : X.env.scope.names.lookup z = some .local) (g : PyData → PyData → PyData) (hc : X.calm = true) (hN : X.N.Nodup) (hg : Gl X "zip") (hm : X.mg "zip" = none) (ha : EvD X a σ H (.tuple ds)) (hb : EvD X b σ H (.tuple fs)) (ok : BlkOk X.N X.env.scope scope own) (hi : X.N[i]? = some x) (hj : X.N[j]? = some y)
    (hx : scope.names.lookup x = some .local) (hy : scope.names.lookup y = some .local) (hw : ∀ u v, wipe (((wipe σ (own.map (·.2))).set i (some u)).set j (some v)) (own.map (·.2)) = wipe σ (own.map (·.2))) (hz : ds.length ≤ 100000)
    (hn : ∀ d f, (d, f) ∈ ds.zip fs → noL (g d f) = true)
    (he : Blk X scope fun X' => ∀ d f u v H1, Ex H H1 → (d, f) ∈ ds.zip fs → Dp X.K H1 u d → Dp X.K H1 v f → EvD X' elt (((wipe σ (own.map (·.2))).set i (some u)).set j (some v)) H1 (g d f))
    (hs1 : starEach [a, b] X.env = (false, eval a X.env) :: starEach [b] X.env := by rfl) (hs2 : starEach [b] X.env = (false, eval b X.env) :: starEach [] X.env := by rfl) (hpl : (backTo p4 (starEach [b] X.env)).any (·.1) = false := by rfl)
    (hs : ∀ z, foldedSetIterable (.Call (.Name "zip" p3) [a, b] [] p4) X.env z = pure z := by intro _; rfl) (kk : ∀ a xs H1, Ex H H1 → H a = none → H1 a = some (.lst xs) → DpAll X.K H1 xs (((ds.zip fs).map fun p => g p.1 p.2)) → BlX X rest (σ.set iz (some (.ref a))) H1 D) (hsw : swapsWith (.ListComp elt [⟨.Tuple [.Name x p1, .Name y p2] k p, .Call (.Name "zip" p3) [a, b] [] p4, [], 0⟩] scope pos) (some (.Name z pz)) spos.line X.env = pure true := by exact sw_true rfl rfl rfl (by decide +kernel)) : BlX X (.Assign [.Name z pz] (.ListComp elt [⟨.Tuple [.Name x p1, .Name y p2] k p, .Call (.Name "zip" p3) [a, b] [] p4, [], 0⟩] scope pos) spos :: rest) σ H D :=
  bl_st (ps_setLc (own := own) (g := gTwo X.K i j) (tt := tYes) (te := fun σ' H' Q => Blk X scope fun X' => WpX X' elt σ' H' Q) hc hN hz0 hzl hsw (RZ.pi_zipA hg hm aa hs1 hpl) ok (fun _ _ _ _ _ => pg_two hc hN hi hj (lookup_relabel_local hx) (lookup_relabel_local hy)) (fun _ _ _ _ _ => pts_nil) (fun s H C cl fp => ⟨fun pins s' _ _ _ I h => h s H C cl fp pins s' I⟩) hs)
    (r_lcZT (g := g) (hc := hc) (hN := hN) (hg := hg) (hm := hm) (ha := ha) (hb := hb) (ok := ok) (hi := hi) (hj := hj) (hx := hx) (hy := hy) (hw := hw) (hz := hz) (hn := hn) (he := he) (hs1 := hs1) (hs2 := hs2) H (Ex.refl H) _ fun v H1 e1 ⟨a, xs, e, h0, h1, h2⟩ => by rw [e]; exact kk a xs H1 e1 h0 h1 h2)

theorem s_lcZM {z : Str} {pz spos : Pos} {rest : List Stmt} {D : Ends} (iz : Nat) (hz0 : X.N[iz]? = some z) (hzl : X.env.scope.names.lookup z = some .local) (g : PyData → PyData → PyData) (hc : X.calm = true) (hN : X.N.Nodup) (hg : Gl X "zip") (hm : X.mg "zip" = none) (ha : EvD X a σ H (.tuple ds)) (hb : EvD X b σ H (.list fs)) (hlen : ds.length = fs.length) (ok : BlkOk X.N X.env.scope scope own) (hi : X.N[i]? = some x) (hj : X.N[j]? = some y)
    (hx : scope.names.lookup x = some .local) (hy : scope.names.lookup y = some .local) (hw : ∀ u v, wipe (((wipe σ (own.map (·.2))).set i (some u)).set j (some v)) (own.map (·.2)) = wipe σ (own.map (·.2))) (hz : ds.length ≤ 100000)
    (hn : ∀ d f, (d, f) ∈ ds.zip fs → noL (g d f) = true)
    (he : Blk X scope fun X' => ∀ d f u v H1, Ex H H1 → (d, f) ∈ ds.zip fs → Dp X.K H1 u d → Dp X.K H1 v f → EvD X' elt (((wipe σ (own.map (·.2))).set i (some u)).set j (some v)) H1 (g d f))
    (hs1 : starEach [a, b] X.env = (false, eval a X.env) :: starEach [b] X.env := by rfl) (hs2 : starEach [b] X.env = (false, eval b X.env) :: starEach [] X.env := by rfl) (hpl : (backTo p4 (starEach [b] X.env)).any (·.1) = false := by rfl)
    (hs : ∀ z, foldedSetIterable (.Call (.Name "zip" p3) [a, b] [] p4) X.env z = pure z := by intro _; rfl) (kk : ∀ a xs H1, Ex H H1 → H a = none → H1 a = some (.lst xs) → DpAll X.K H1 xs (((ds.zip fs).map fun p => g p.1 p.2)) → BlX X rest (σ.set iz (some (.ref a))) H1 D) (hsw : swapsWith (.ListComp elt [⟨.Tuple [.Name x p1, .Name y p2] k p, .Call (.Name "zip" p3) [a, b] [] p4, [], 0⟩] scope pos) (some (.Name z pz)) spos.line X.env = pure true := by exact sw_true rfl rfl rfl (by decide +kernel)) : BlX X (.Assign [.Name z pz] (.ListComp elt [⟨.Tuple [.Name x p1, .Name y p2] k p, .Call (.Name "zip" p3) [a, b] [] p4, [], 0⟩] scope pos) spos :: rest) σ H D :=
  bl_st (ps_setLc (own := own) (g := gTwo X.K i j) (tt := tYes) (te := fun σ' H' Q => Blk X scope fun X' => WpX X' elt σ' H' Q) hc hN hz0 hzl hsw (pi_zipM hg hm aa hs1 hpl) ok (fun _ _ _ _ _ => pg_two hc hN hi hj (lookup_relabel_local hx) (lookup_relabel_local hy)) (fun _ _ _ _ _ => pts_nil) (fun s H C cl fp => ⟨fun pins s' _ _ _ I h => h s H C cl fp pins s' I⟩) hs)
    (r_lcZM (g := g) (hc := hc) (hN := hN) (hg := hg) (hm := hm) (ha := ha) (hb := hb) (hlen := hlen) (ok := ok) (hi := hi) (hj := hj) (hx := hx) (hy := hy) (hw := hw) (hz := hz) (hn := hn) (he := he) (hs1 := hs1) (hs2 := hs2) H (Ex.refl H) _ fun v H1 e1 ⟨a, xs, e, h0, h1, h2⟩ => by rw [e]; exact kk a xs H1 e1 h0 h1 h2)

theorem s_lcT2 {z : Str} {pz spos : Pos} {rest : List Stmt} {D : Ends} (iz : Nat) (hz0 : X.N[iz]? = some z) (hzl : X.env.scope.names.lookup z = some .local) {iter : Expr} (g : PyData → PyData → PyData) {qs : List (PyData × PyData)} (hc : X.calm = true) (hN : X.N.Nodup) (ha : EvD X iter σ H (.tuple (qs.map fun q => .tuple [q.1, q.2]))) (ok : BlkOk X.N X.env.scope scope own) (hi : X.N[i]? = some x) (hj : X.N[j]? = some y)
    (hx : scope.names.lookup x = some .local) (hy : scope.names.lookup y = some .local) (hw : ∀ u v, wipe (((wipe σ (own.map (·.2))).set i (some u)).set j (some v)) (own.map (·.2)) = wipe σ (own.map (·.2))) (hz : qs.length ≤ 100000)
    (hn : ∀ q ∈ qs, noL (g q.1 q.2) = true)
    (he : Blk X scope fun X' => ∀ d f u v H1, Ex H H1 → (d, f) ∈ qs → Dp X.K H1 u d → Dp X.K H1 v f → EvD X' elt (((wipe σ (own.map (·.2))).set i (some u)).set j (some v)) H1 (g d f))
    (hs : ∀ z, foldedSetIterable iter X.env z = pure z := by intro _; rfl) (kk : ∀ a xs H1, Ex H H1 → H a = none → H1 a = some (.lst xs) → DpAll X.K H1 xs ((qs.map fun q => g q.1 q.2)) → BlX X rest (σ.set iz (some (.ref a))) H1 D) (hsw : swapsWith (.ListComp elt [⟨.Tuple [.Name x p1, .Name y p2] k p, iter, [], 0⟩] scope pos) (some (.Name z pz)) spos.line X.env = pure true := by exact sw_true rfl rfl rfl (by decide +kernel)) : BlX X (.Assign [.Name z pz] (.ListComp elt [⟨.Tuple [.Name x p1, .Name y p2] k p, iter, [], 0⟩] scope pos) spos :: rest) σ H D :=
  bl_st (ps_setLc (own := own) (g := gTwo X.K i j) (tt := tYes) (te := fun σ' H' Q => Blk X scope fun X' => WpX X' elt σ' H' Q) hc hN hz0 hzl hsw (pi_tup pp) ok (fun _ _ _ _ _ => pg_two hc hN hi hj (lookup_relabel_local hx) (lookup_relabel_local hy)) (fun _ _ _ _ _ => pts_nil) (fun s H C cl fp => ⟨fun pins s' _ _ _ I h => h s H C cl fp pins s' I⟩) hs)
    (r_lcT2 (g := g) (hc := hc) (hN := hN) (ha := ha) (ok := ok) (hi := hi) (hj := hj) (hx := hx) (hy := hy) (hw := hw) (hz := hz) (hn := hn) (he := he) H (Ex.refl H) _ fun v H1 e1 ⟨a, xs, e, h0, h1, h2⟩ => by rw [e]; exact kk a xs H1 e1 h0 h1 h2)
end
end D1
end
section
/-! texts -/
namespace D1
open PySem PySem.Spec PyProof.Rows L2 Evl W1
section
variable {X : Cx} {e o elt : Expr} {es : List Expr} {σ : L2.St} {H H' : Hp} {d : PyData} {ds : List PyData} {pos p apos : Pos} {x y : Str} {scope : Scope} {own : List (Str × Nat)} {j : Nat}
theorem d_join {sep : Str} {ys : List Str} (ho : EvD X o σ H (.str sep)) (he : EvD X e σ H (.list (ys.map .str))) (hl : (ys.map (·.length)).sum + ys.length * sep.length ≤ 1000000)
    (hs : starEach [e] X.env = [(false, eval e X.env)] := by rfl) (hbase : attributeBase o "join" X.env (eval o X.env) = eval o X.env := by rfl) (hline : (apos.endLine == pos.line) = true := by rfl) : EvD X (.Call (.Attribute o "join" apos) [e] [] pos) σ H (.str (Txt.join sep ys)) :=
  .of (pe_join pp pp hs hbase hline) fun H1 e1 Q q => ho.run H1 e1 _ fun x H2 e2 hx => ⟨⟨sep, dp_str hx⟩, he.run H2 (e1.trans e2) _ fun y H3 e3 hy => by
    obtain ⟨a, xs, rfl, ha, hxs⟩ := dp_lst hy
    rw [dpa_strs hxs] at ha
    exact ⟨sep, a, ys, dp_str hx, rfl, .inl ha, by omega, q _ H3 (e2.trans e3) (.str _)⟩⟩
theorem n_split {a b : Str} (ho : EvD X o σ H (.str a)) (he : EvD X e σ H (.str b)) (hb : (b.length == 0) = false) (hl : a.length ≤ 100000)
    (hs : starEach [e] X.env = [(false, eval e X.env)] := by rfl) (hbase : attributeBase o "split" X.env (eval o X.env) = eval o X.env := by rfl) (hline : (apos.endLine == pos.line) = true := by rfl) : EvN X (.Call (.Attribute o "split" apos) [e] [] pos) σ H ((Txt.split a b).map .str) :=
  .of (pe_split pp pp hs hbase hline) fun H1 e1 Q q => ho.run H1 e1 _ fun x H2 e2 hx => ⟨⟨a, dp_str hx⟩, he.run H2 (e1.trans e2) _ fun y H3 e3 hy =>
    ⟨a, b, dp_str hx, by rw [dp_str hy], hb, by rw [sizeLine_eq]; omega, fun t ht => q _ _ ((e2.trans e3).trans (Ex.new ht)) ⟨t, _, rfl, fresh_back (e1.trans (e2.trans e3)) ht, upd_same, strs_dpa _⟩⟩⟩
/-- c in s, c one sign -/
theorem d_inS {c : Nat} {z : Str} (ha : EvD X e σ H (.str ⟨#[c]⟩)) (hb : EvD X o σ H (.str z)) (hm : behindInMarks .In o = false) : EvD X (.Compare e [.In] [o] pos) σ H (.bool (decide (c ∈ z.cps.toList))) :=
  d_cmp op_inS ha hb hm fun u v H2 _ hu hv Q q => ⟨c, z, dp_str hu, dp_str hv, q _ H2 (Ex.refl H2) (.bl _)⟩
/-- [.. for c in text] -/
theorem n_lcS {z : Str} {py : Pos} {iter : Expr} (g : Nat → PyData) (hc : X.calm = true) (hN : X.N.Nodup) (hi : EvD X iter σ H (.str z)) (ok : BlkOk X.N X.env.scope scope own) (hj : X.N[j]? = some y) (hy : scope.names.lookup y = some .local)
    (hw : ∀ v, wipe ((wipe σ (own.map (·.2))).set j (some v)) (own.map (·.2)) = wipe σ (own.map (·.2))) (hz : z.length ≤ 100000) (hn : ∀ c, noL (g c) = true)
    (he : Blk X scope fun X' => ∀ c H1, Ex H H1 → c ∈ z.cps.toList → EvD X' elt ((wipe σ (own.map (·.2))).set j (some (.str ⟨#[c]⟩))) H1 (g c))
    (hs : ∀ x, foldedSetIterable iter X.env x = pure x := by intro _; rfl) : EvN X (.ListComp elt [⟨.Name y py, iter, [], 0⟩] scope pos) σ H (z.cps.toList.map g) :=
  .of (pe_lc (own := own) (g := gName j) (tt := tYes) (te := fun σ' H' Q => Blk X scope fun X' => WpX X' elt σ' H' Q) hc hN (pi_str pp) ok (fun _ _ _ _ _ => pg_name (i := j) hN hj (.inl (lookup_relabel_local hy)) (.inr (lookup_relabel_local hy))) (fun _ _ _ _ _ => pts_nil) (fun s H C cl fp => ⟨fun pins s' _ _ _ I h => h s H C cl fp pins s' I⟩) hs)
    fun H1 e1 Q q => hi.run H1 e1 _ fun v H2 e2 hv => by
      have hn' : noLs (z.cps.toList.map g) = true := all_noLs fun d hd => by obtain ⟨c, _, rfl⟩ := List.mem_map.mp hd; exact hn c
      have hsz : z.cps.size = (z.cps.toList.map g).length := by rw [List.length_map, Array.length_toList]
      have hz' : z.cps.size ≤ 100000 := hz
      refine ⟨z, dp_str hv, fun D hD => lc_n (J := Its z) (n := z.cps.size) (g := gName j) (tt := tYes) (te := fun σ' H' Q => Blk X scope fun X' => WpX X' elt σ' H' Q) (vs := own.map (·.2)) (σ := σ) (Qd := fun H' => Q (.ref D) H') (CwD X.K H2 (z.cps.toList.map g) D) ⟨hD, Ex.new hD, [], upd_same, .nil⟩ (fun n H' hlt p => hlt) (fun H' p => Nat.le_refl _) (fun n v' H' H'' hlt p hy' => ?_) (fun H' p => ?_)⟩
      · obtain ⟨rfl, c, hc', rfl⟩ := hy'
        have hcl : z.cps.toList[n]? = some c := by rw [Array.getElem?_toList]; exact hc'
        refine ⟨hw _, ?_⟩
        show Blk X scope fun X' => WpX X' elt _ _ _
        intro s0 H0 C0 cl0 fp0
        refine (he s0 H0 C0 cl0 fp0 c _ ((e1.trans e2).trans p.2.1) (List.mem_of_getElem? hcl)).run _ (Ex.refl _) _ fun yv H4 e4 hyv => ?_
        exact cwD_turn (X := X) hn' (by omega) p e4 (by rw [List.getElem?_map, hcl]; rfl) hyv
      · rw [hsz] at p
        exact cwD_end p fun v H3 e3 ⟨b, ys, e, n, h3, h4⟩ => q v H3 (e2.trans e3) ⟨b, ys, e, fresh_back (e1.trans e2) n, h3, h4⟩
/-! f-strings -/
theorem d_fmtS {z : Str} (h : EvD X e σ H (.str z)) (hz : z.length ≤ 100000) : EvD X (.FormattedValue e (-1) none pos) σ H (.str z) :=
  .of (pe_fmt pp) fun H1 e1 Q q => h.run H1 e1 _ fun v H2 e2 hv => .inl ⟨z, dp_str hv, by rw [sizeLine_eq]; omega, q _ H2 e2 (.str _)⟩
theorem i64 {i : Int} (hi : i.natAbs < 2 ^ 64) : i.natAbs.log2 < 1920 := by
  by_cases h0 : i.natAbs = 0
  · rw [h0]; decide
  · exact Nat.lt_trans ((Nat.log2_lt h0).mpr hi) (by decide)
theorem d_fmtI {i : Int} (h : EvD X e σ H (.int i)) (hi : i.natAbs < 2 ^ 64) : EvD X (.FormattedValue e (-1) none pos) σ H (.str (toString i)) :=
  .of (pe_fmt pp) fun H1 e1 Q q => h.run H1 e1 _ fun v H2 e2 hv => .inr ⟨i, dp_int hv, i64 hi, q _ H2 e2 (.str _)⟩
/-- the parts of an f-string -/
inductive JS (X : Cx) (σ : L2.St) (H : Hp) : List Expr → List Str → Prop where
  | nil : JS X σ H [] []
  | cons {e : Expr} {es : List Expr} {y : Str} {ys : List Str} : EvD X e σ H (.str y) → JS X σ H es ys → JS X σ H (e :: es) (y :: ys)
theorem pj_all : ∀ es : List Expr, PJ X es (es.map fun e σ H Q => WpX X e σ H Q)
  | [] => .nil
  | _ :: es => .cons pp (pj_all es)
theorem js_run : ∀ {es : List Expr} {ys : List Str}, JS X σ H es ys → ∀ (acc : Str) H1, Ex H H1 → ∀ Q : Str → Hp → Prop, acc.length + (ys.map (·.length)).sum ≤ 100000 → (∀ H2, Ex H1 H2 → Q (ys.foldl (· ++ ·) acc) H2) → tJs (es.map fun e σ H Q => WpX X e σ H Q) acc σ H1 Q
  | _, _, .nil, acc, H1, _, Q, _, q => q H1 (Ex.refl H1)
  | _, _, .cons (y := y) (ys := ys) h r, acc, H1, e1, Q, hl, q => by
    rw [List.map_cons, List.sum_cons] at hl
    have hz : (acc ++ y).length = acc.length + y.length := Str.length_append ..
    exact h.run H1 e1 _ fun v H2 e2 hv => ⟨y, dp_str hv, by rw [sizeLine_eq, hz]; omega, js_run r (acc ++ y) H2 (e1.trans e2) Q (by rw [hz]; omega) fun H3 e3 => q H3 (e2.trans e3)⟩
theorem d_joined {v1 v2 : Expr} {rest : List Expr} {ys : List Str} (h : JS X σ H (v1 :: v2 :: rest) ys) (hl : (ys.map (·.length)).sum ≤ 100000) : EvD X (.JoinedStr (v1 :: v2 :: rest) pos) σ H (.str (ys.foldl (· ++ ·) Str.empty)) :=
  .of (pe_joined (pj_all (v1 :: v2 :: rest))) fun H1 e1 Q q => js_run h Str.empty H1 e1 _ (by show 0 + _ ≤ _; omega) fun H2 e2 => q _ H2 e2 (.str _)
end
end D1
end
section
/-! what is known of the text; the first defs -/
namespace TX
open PySem PySem.Spec PyProof.Rows L2 Evl W1 D1
/-- the def x as it stands -/
structure Df (K : PySem.W.Frag) (mg : Str → Option Value) (x : Str) (st : Stmt) : Prop where
  ex : ∃ fd, FunD K x x (defArgs st) (defBody st) (defScope st) [] [] (He.ga K x) fd
  m : mg x = some (.ref (He.ga K x))
theorem kit_ii : kitB "int" "int" = some true := by decide +kernel
theorem kit_ni : kitB "NoneType" "int" = some false := by decide +kernel
theorem kit_ib : kitB "int" "bool" = some false := by decide +kernel
theorem kit_tt : kitB "tuple" "tuple" = some true := by decide +kernel
theorem kit_ss : kitB "str" "str" = some true := by decide +kernel
/-- the built-in names that the text uses -/
structure Bi (mg : Str → Option Value) : Prop where
  len : mg "len" = none
  isinstance : mg "isinstance" = none
  sum : mg "sum" = none
  max : mg "max" = none
  min : mg "min" = none
  all : mg "all" = none
  tuple : mg "tuple" = none
  list : mg "list" = none
  str : mg "str" = none
  int : mg "int" = none
  bool : mg "bool" = none
  zip : mg "zip" = none
  enumerate : mg "enumerate" = none
  range : mg "range" = none
  abs : mg "abs" = none
  repr : mg "repr" = none
  super : mg "super" = none
  ValueError : mg "ValueError" = none
  LookupError : mg "LookupError" = none
def IsI (mg : Str → Option Value) (x : Str) (n : Int) : Prop := ∃ t, mg x = some (.int n t)
def IsS (mg : Str → Option Value) (x : Str) (n : Str) : Prop := ∃ t, mg x = some (.str n t)
structure Co (mg : Str → Option Value) : Prop where
  words : IsI mg "MAX_WORDS" 24
  length : IsI mg "MAX_LENGTH" 60
  width : IsI mg "MAX_WIDTH" 2000
  edits : IsI mg "MAX_EDITS" 60
  batch : IsI mg "BATCH" 20
  longest : IsI mg "LONGEST" 4
  kept : IsI mg "KEPT" 20
  digits : IsS mg "DIGITS" "0123456789"
  row : IsS mg "ROW" "row"
  unknown : IsS mg "UNKNOWN" "unknown command"
  none : IsS mg "NONE" "none"
section
variable {X : Cx} {σ : L2.St} {H : Hp} {pos : Pos} {x : Str}
theorem d_gi {n : Int} (hg : Gl X x) (hm : IsI X.mg x n) (h1 : (x == ("__debug__" : Str)) = false := by decide) : EvD X (.Name x pos) σ H (.int n) := by
  obtain ⟨t, e⟩ := hm
  exact d_glob hg e (v := .int n) ⟨t, rfl⟩ (fun _ => .int n) h1
theorem d_gs {n : Str} (hg : Gl X x) (hm : IsS X.mg x n) (h1 : (x == ("__debug__" : Str)) = false := by decide) : EvD X (.Name x pos) σ H (.str n) := by
  obtain ⟨t, e⟩ := hm
  exact d_glob hg e (v := .str n) ⟨t, rfl⟩ (fun _ => .str n) h1
end
section
variable {P : Program} {w : World} {K : PySem.W.Frag} {mg : Str → Option Value} {base : Heap}
/-- the context of the def x's body -/
abbrev cX (P : Program) (w : World) (K : PySem.W.Frag) (mg : Str → Option Value) (base : Heap) (N : List Str) (x : Str) (st : Stmt) (f : Addr) (cdv : Value) (A : Around) (outer : List Env) (s : Shared) (H : Hp) (E : XK) : Cx :=
  cxOf (L2N.CX P w) P w K mg base N x (defScope st) f cdv A outer s H E
theorem Df.gf {x : Str} {st : Stmt} (D : Df K mg x st) (k : Nat) {N ps : List Str} {sp : Sp} (S : FnScope N ps (defScope st)) (len : ∀ vs H Q E, sp vs H Q E → vs.length = ps.length)
    (hb : ∀ (kV doc pm : Value) (an : Option Addr) (cdv ct : Value) (us : List Value), us.length = ps.length → bindArgs (PySem.W.fnOf x x (defArgs st) (defBody st) (defScope st) .none kV doc pm an cdv ct) ⟨us, []⟩ = pure (ps.zip us))
    (hbody : ∀ (cdv : Value) (A : Around) (outer : List Env) (s : Shared) (H : Hp) (vs : List V) (Q : VK) (E : XK), Room k (cX P w K mg base N x st (He.ga K x) cdv A outer s H E).A → sp vs H Q E →
      BlX (cX P w K mg base N x st (He.ga K x) cdv A outer s H E) (defBody st) (start N vs) H { nx := fun _ H' => Q .non H', rt := Q }) : Gf P w K mg base (k + 1) x ps sp := by
  obtain ⟨fd, F⟩ := D.ex
  exact ⟨⟨fd, F.ok S len (fun cdv A outer s H vs Q E hr h => ⟨fun D σ H => BlX _ _ σ H D, BlX.pss, hbody cdv A outer s H vs Q E hr h⟩), F.bindsN hb⟩, D.m, F.kp⟩
theorem Spf_len {R : List PyData → PyData → Prop} {n : Nat} (h : ∀ ds r, R ds r → ds.length = n) : ∀ vs H Q E, Spf K R vs H Q E → vs.length = n := fun vs H Q E ⟨ds, r, hR, ha, _⟩ => (dpa_length ha).trans (h ds r hR)
section
variable {X : Cx} {e a b c : Expr} {es : List Expr} {σ : L2.St} {H H' : Hp} {d d1 d2 d3 : PyData} {ds : List PyData} {pos p p2 : Pos} {x : Str} {k : Bool} {v : V}
theorem x_var (i : Nat) (hi : X.N[i]? = some x) (hv : Vis X.env.scope x) (hs : σ[i]? = some (some v)) (hd : Dp X.K H v d) (h1 : (x == ("__debug__" : Str)) = false) (h2 : (x == ("__classdict__" : Str)) = false) : EvD X (.Name x pos) σ H d := d_var i hi hv hs hd h1 h2
theorem x_gi {n : Int} (hg : Gl X x) (hm : IsI X.mg x n) (h1 : (x == ("__debug__" : Str)) = false) : EvD X (.Name x pos) σ H (.int n) := d_gi hg hm h1
theorem x_gs {n : Str} (hg : Gl X x) (hm : IsS X.mg x n) (h1 : (x == ("__debug__" : Str)) = false) : EvD X (.Name x pos) σ H (.str n) := d_gs hg hm h1
theorem x_chain {i j k : Int} (ha : EvD X a σ H (.int i)) (hb : EvD X b σ H (.int j)) (hc : EvD X c σ H (.int k)) (hm : lastMarks [.LtE, .LtE] [b, c] = false) : EvD X (.Compare a [.LtE, .LtE] [b, c] pos) σ H (.bool (decide (i ≤ j) && decide (j ≤ k))) := d_chain ha hb hc hm
theorem y_chain {i j k : Int} (ha : EvD X a σ H (.int i)) (hb : EvD X b σ H (.int j)) (hc : EvD X c σ H (.int k)) (hm : lastMarks [.LtE, .LtE] [b, c] = false) : EvB X (.Compare a [.LtE, .LtE] [b, c] pos) σ H (decide (i ≤ j) && decide (j ≤ k)) := b_chain ha hb hc hm
theorem y_val (h : EvD X e σ H (.bool k)) (he : ∀ whole, isTrue e X.env whole = (do let v ← whole; standAt e.pos; holding [v] (truthy v))) : EvB X e σ H k := b_val h he
theorem z_cons (h : EvD X e σ H d) (hr : EvA X es σ H ds) (hs : starEach (e :: es) X.env = (false, eval e X.env) :: starEach es X.env) : EvA X (e :: es) σ H (d :: ds) := a_cons h hr hs
theorem x_lenT (hg : Gl X "len") (B : Bi X.mg) (ha : EvD X a σ H (.tuple ds)) (he : starEach [a] X.env = (false, eval a X.env) :: starEach [] X.env) : EvD X (.Call (.Name "len" p) [a] [] pos) σ H (.int ds.length) := d_lenT hg B.len ha he
theorem x_lenL (hg : Gl X "len") (B : Bi X.mg) (ha : EvD X a σ H (.list ds)) (he : starEach [a] X.env = (false, eval a X.env) :: starEach [] X.env) : EvD X (.Call (.Name "len" p) [a] [] pos) σ H (.int ds.length) := d_lenL hg B.len ha he
theorem x_sumT {ns : List Int} (hc : X.calm = true) (hg : Gl X "sum") (B : Bi X.mg) (ha : EvD X a σ H (.tuple (ns.map .int))) (he : starEach [a] X.env = (false, eval a X.env) :: starEach [] X.env) : EvD X (.Call (.Name "sum" p) [a] [] pos) σ H (.int ns.sum) := d_sumT hc hg B.sum ha he
theorem i_int (hg : Gl X "isinstance") (hg2 : Gl X "int") (B : Bi X.mg) (ha : EvD X a σ H d) (hk : kitB (tyD d) "int" = some k) (he : starEach [a, .Name "int" p] X.env = (false, eval a X.env) :: starEach [.Name "int" p] X.env) (he2 : starEach [.Name "int" p] X.env = (false, eval (.Name "int" p) X.env) :: starEach [] X.env) (hpl : (backTo pos (starEach [.Name "int" p] X.env)).any (·.1) = false) : EvD X (.Call (.Name "isinstance" p2) [a, .Name "int" p] [] pos) σ H (.bool k) := d_isinst (T := "int") (x := "int") hg B.isinstance hg2 B.int boot_int ha hk he he2 hpl
theorem i_bool (hg : Gl X "isinstance") (hg2 : Gl X "bool") (B : Bi X.mg) (ha : EvD X a σ H d) (hk : kitB (tyD d) "bool" = some k) (he : starEach [a, .Name "bool" p] X.env = (false, eval a X.env) :: starEach [.Name "bool" p] X.env) (he2 : starEach [.Name "bool" p] X.env = (false, eval (.Name "bool" p) X.env) :: starEach [] X.env) (hpl : (backTo pos (starEach [.Name "bool" p] X.env)).any (·.1) = false) : EvD X (.Call (.Name "isinstance" p2) [a, .Name "bool" p] [] pos) σ H (.bool k) := d_isinst (T := "bool") (x := "bool") hg B.isinstance hg2 B.bool boot_bool ha hk he he2 hpl
theorem i_tuple (hg : Gl X "isinstance") (hg2 : Gl X "tuple") (B : Bi X.mg) (ha : EvD X a σ H d) (hk : kitB (tyD d) "tuple" = some k) (he : starEach [a, .Name "tuple" p] X.env = (false, eval a X.env) :: starEach [.Name "tuple" p] X.env) (he2 : starEach [.Name "tuple" p] X.env = (false, eval (.Name "tuple" p) X.env) :: starEach [] X.env) (hpl : (backTo pos (starEach [.Name "tuple" p] X.env)).any (·.1) = false) : EvD X (.Call (.Name "isinstance" p2) [a, .Name "tuple" p] [] pos) σ H (.bool k) := d_isinst (T := "tuple") (x := "tuple") hg B.isinstance hg2 B.tuple boot_tuple ha hk he he2 hpl
theorem i_str (hg : Gl X "isinstance") (hg2 : Gl X "str") (B : Bi X.mg) (ha : EvD X a σ H d) (hk : kitB (tyD d) "str" = some k) (he : starEach [a, .Name "str" p] X.env = (false, eval a X.env) :: starEach [.Name "str" p] X.env) (he2 : starEach [.Name "str" p] X.env = (false, eval (.Name "str" p) X.env) :: starEach [] X.env) (hpl : (backTo pos (starEach [.Name "str" p] X.env)).any (·.1) = false) : EvD X (.Call (.Name "isinstance" p2) [a, .Name "str" p] [] pos) σ H (.bool k) := d_isinst (T := "str") (x := "str") hg B.isinstance hg2 B.str boot_str ha hk he he2 hpl
end
theorem dpa1 {H : Hp} {vs : List V} {a : PyData} (h : DpAll K H vs [a]) : ∃ x, vs = [x] ∧ Dp K H x a := by
  cases h with | cons h t => cases t; exact ⟨_, rfl, h⟩
theorem dpa2 {H : Hp} {vs : List V} {a b : PyData} (h : DpAll K H vs [a, b]) : ∃ x y, vs = [x, y] ∧ Dp K H x a ∧ Dp K H y b := by
  cases h with | cons h t => obtain ⟨y, rfl, z⟩ := dpa1 t; exact ⟨_, _, rfl, h, z⟩
theorem dpa3 {H : Hp} {vs : List V} {a b c : PyData} (h : DpAll K H vs [a, b, c]) : ∃ x y z, vs = [x, y, z] ∧ Dp K H x a ∧ Dp K H y b ∧ Dp K H z c := by
  cases h with | cons h t => obtain ⟨y, z, rfl, q⟩ := dpa2 t; exact ⟨_, _, _, rfl, h, q⟩
theorem bl_retD {X : Cx} {e : Expr} {pos : Pos} {rest : List Stmt} {σ : L2.St} {H : Hp} {D : Ends} {d r : PyData} (h : EvD X e σ H d) (hd : d = r) (k : ∀ v H1, Ex H H1 → Dp X.K H1 v r → D.rt v H1) : BlX X (.Return (some e) pos :: rest) σ H D :=
  bl_ret (h.go fun v H1 e1 hv => k v H1 e1 (by rw [← hd]; exact hv))
end
end TX
end
section
namespace MM
open PySem
/-- which of the four classes of pages -/
structure Kind where
  nr : Bool
  lg : Bool
/-- what a page holds -/
structure Pg where
  now : List Int
  states : List (List Int)
  done : List Edit
  wanted : Option Int
  busy : Bool
  log : List (Str × Int)
def fitsK (kd : Kind) (r : List Int) : Prop := kd.nr = true → ∀ x ∈ r, x ≤ 12
instance (kd : Kind) (r : List Int) : Decidable (fitsK kd r) := by unfold fitsK; infer_instance
structure Pg.ok (kd : Kind) (st : Pg) : Prop where
  rows : ∀ r ∈ st.states, RowOk r ∧ fitsK kd r
  len : st.states.length = st.done.length + 1
  last : st.states.getLast? = some st.now
  few : st.done.length ≤ 60
  fit : ∀ e ∈ st.done, e.fit
  want : ∀ w, st.wanted = some w → 1 ≤ w ∧ w ≤ 2000
  log : ∀ q ∈ st.log, q.1.length ≤ 40 ∧ 0 ≤ q.2 ∧ q.2 ≤ 60
theorem Pg.ok.now {kd : Kind} {st : Pg} (h : st.ok kd) : RowOk st.now ∧ fitsK kd st.now := h.rows _ (List.mem_of_getLast? h.last)
def Pg.perform (kd : Kind) (st : Pg) (e : Edit) : Except Bad Pg :=
  if st.done.length = 60 then .error .tooManyEdits
  else match editR st.now e with
    | .error b => .error b
    | .ok r => if fitsK kd r then .ok { st with now := r, states := st.states ++ [r], done := st.done ++ [e] } else .error .tooLong
def Pg.undo (st : Pg) : Except Bad Pg :=
  if st.done = [] then .error .nothing
  else .ok { st with now := (st.states.dropLast.getLast?).getD [], states := st.states.dropLast, done := st.done.dropLast }
def Edit.nm : Edit → Str
  | .put _ _ => "put" | .cut _ => "cut" | .resize _ _ => "resize" | .turn => "turn" | .undo => "undo"
/-- an own method without its note -/
def Pg.alone (kd : Kind) (st : Pg) (e : Edit) : Except Bad Pg := if st.busy = true then .error .busy else match e with
  | .undo => st.undo
  | e => st.perform kd e
def Pg.noted (st : Pg) (n : Str) : Pg := { st with log := st.log ++ [(n, (st.done.length : Int))] }
def Pg.note (kd : Kind) (n : Str) (st : Pg) : Pg := if kd.lg = true then st.noted n else st
def Pg.act (kd : Kind) (st : Pg) (e : Edit) : Except Bad Pg := match st.alone kd e with
  | .error b => .error b
  | .ok st' => .ok (st'.note kd e.nm)
theorem Pg.perform_ok {kd : Kind} {st st' : Pg} {e : Edit} (h : st.ok kd) (he : e.fit) (q : st.perform kd e = .ok st') : st'.ok kd ∧ st'.busy = st.busy ∧ st'.wanted = st.wanted ∧ st'.log = st.log := by
  unfold Pg.perform at q
  split at q
  · cases q
  · rename_i hd
    split at q
    · cases q
    · rename_i r hr
      split at q
      · rename_i hf
        cases q
        have hr' := editR_ok h.now.1 he hr
        have := h.len
        have := h.few
        refine ⟨⟨fun x hx => ?_, by simp only [List.length_append, List.length_cons, List.length_nil]; omega, by simp, by simp only [List.length_append, List.length_cons, List.length_nil]; omega, fun x hx => ?_, h.want, h.log⟩, rfl, rfl, rfl⟩
        · rcases List.mem_append.mp hx with z | z
          · exact h.rows x z
          · rw [List.mem_singleton.mp z]; exact ⟨hr', hf⟩
        · rcases List.mem_append.mp hx with z | z
          · exact h.fit x z
          · rw [List.mem_singleton.mp z]; exact he
      · cases q
theorem Pg.undo_ok {kd : Kind} {st st' : Pg} (h : st.ok kd) (q : st.undo = .ok st') : st'.ok kd ∧ st'.busy = st.busy ∧ st'.wanted = st.wanted ∧ st'.log = st.log := by
  unfold Pg.undo at q
  split at q
  · cases q
  · rename_i hd
    cases q
    have h1 := h.len
    have h2 := h.few
    have h3 : st.done.length ≠ 0 := fun z => hd (List.length_eq_zero_iff.mp z)
    have hl : st.states.dropLast.length = st.done.length := by rw [List.length_dropLast]; omega
    have hne : st.states.dropLast ≠ [] := fun z => by rw [z] at hl; exact h3 hl.symm
    refine ⟨⟨fun x hx => h.rows x ((List.dropLast_sublist _).subset hx), by simp only [List.length_dropLast]; omega, ?_, by simp only [List.length_dropLast]; omega, fun x hx => h.fit x ((List.dropLast_sublist _).subset hx), h.want, h.log⟩, rfl, rfl, rfl⟩
    show st.states.dropLast.getLast? = some ((st.states.dropLast.getLast?).getD [])
    rw [List.getLast?_eq_some_getLast hne]
    rfl
end MM
end
section
/-! a lambda with captured names, handed on by keyword -/
namespace LX
open PySem PySem.Spec PyProof.Rows L2 LamX NdefX
/-- the object at f is that lambda -/
def LfO (f : Addr) (q : Str) (params : Arguments) (body : Expr) (scope : Scope) (cl : List (Str × Addr)) (c : Addr) : HO :=
  .ext fun h => ∃ pm ctv, h.get? f = some (PySem.W.kla_obj "<lambda>" q params body scope cl pm c ctv)
theorem lfO_at {P : Program} {w : World} {H : Hp} {h : Heap} {f c : Addr} {q : Str} {params : Arguments} {body : Expr} {scope : Scope} {cl : List (Str × Addr)} (hok : HOk P w H h) (e : H f = some (LfO f q params body scope cl c)) :
    ∃ pm ctv, h.get? f = some (PySem.W.kla_obj "<lambda>" q params body scope cl pm c ctv) := (hok f _ e).1
section
variable {X : Cx} {pins : List (Addr × Obj)} {σ : L2.St} {H : Hp} {s : Shared}
theorem lam_fn {q : Str} {params : Arguments} {body : Expr} {scope : Scope} {cl : List (Str × Addr)} {h' : Heap} {tk tk' : Nat} {pm ctv : Value} {c' : Addr} (I : Inv X pins σ H { s with heap := h', toks := tk }) :
    Inv X pins σ (upd H h'.objs.size (LfO h'.objs.size q params body scope cl c')) { s with heap := h'.push (PySem.W.kla_obj "<lambda>" q params body scope cl pm c' ctv), toks := tk' } := by
  have z : (h'.push (PySem.W.kla_obj "<lambda>" q params body scope cl pm c' ctv)).get? h'.objs.size = some (PySem.W.kla_obj "<lambda>" q params body scope cl pm c' ctv) := Heap.get?_push_size _ rfl
  exact I.laid (a := h'.objs.size) (fun b u e => Heap.get?_push_of_some _ e) (Nat.le_refl _) ⟨⟨pm, ctv, z⟩, ⟨_, z⟩, fun h1 h2 ⟨pm, ctv, y⟩ st => ⟨pm, ctv, st _ y⟩⟩
theorem lam_mk {q : Str} {c P : Addr} {params : Arguments} {body : Expr} {scope : Scope} {pos : Pos} {E Q : Value → Shared → Prop} (I : Inv X pins σ H s) (TB : TabB X.base X.mg c P) (hcode : X.env.code = .ref c) (hq : X.env.qual ++ "<lambda>" = q) (hT : TabS H P q) (hdef : defaultsOf params X.env = ([], []))
    (hfree : ∀ y ∈ scope.names, y.2 = .free → ∃ c, X.env.cells.lookup y.1 = some c)
    (h : ∀ f c' H1 s', Inv X pins σ H1 s' → (∀ b o, H b = some o → b ≠ P → H1 b = some o) → (∀ b, H1 b = none → H b = none) → H f = none → H1 f = some (LfO f q params body scope (cloFrom X.env.cells scope.names []) c') → H1 c' = some (CodeO c' q) → Q (.ref f) s') :
    wpAny (model X.prog X.w) X.A (eval (.Lambda params body scope pos) X.env) Q E s := by
  subst hq
  obtain ⟨ps, hP, ht, ha⟩ := hT
  have hbP := TB.bm.keeps I.bk
  have hPo : s.heap.get? P = some { cls := .none, data := .fields ps } := I.hok P _ hP
  refine PySem.W.kla_eval hdef ?_
  cases hc : codeAmong pos ps.toList with
  | none =>
    refine PySem.W.kla_makeFunction (mg := X.mg) (closure_ok hfree) I.ok.glob (I.mod.glob.keeps I.bk) hcode (TB.code.keeps I.bk) hPo ht hc TB.gP hbP ?_
    intro c' ctv h' tk hx hge hlt hrec htb
    obtain ⟨c2, oc, vs, t, e2, hoc, hd, hv⟩ := hrec
    obtain rfl : c' = c2 := Value.ref.inj e2
    have nC : H c' = none := I.hok.fresh hge
    have nPc : P ≠ c' := ne_of_none hP nC
    have I1 := inv_table (q := X.env.qual ++ "<lambda>") (t' := tk) (more := #[rawInt pos.line, rawInt pos.col, .ref c']) (h' := h') I hP hx htb hge ⟨oc, vs, t, hoc, hd, hv⟩
    have nF := I1.hok.fresh (a := h'.objs.size) (Nat.le_refl _)
    have nFc : c' ≠ h'.objs.size := Nat.ne_of_lt hlt
    have I2 := lam_fn (tk' := tk) (q := X.env.qual ++ "<lambda>") (params := params) (body := body) (scope := scope) (cl := cloFrom X.env.cells scope.names []) (pm := (X.mg "__name__").getD .none) (ctv := ctv) (c' := c') I1
    refine h _ c' _ _ I2 (fun b o e nb => ?_) (fun b e => upd_none (upd_none (upd_none e))) ?_ upd_same ?_
    · have e1 : upd (upd H P (.tbl (ps ++ #[rawInt pos.line, rawInt pos.col, .ref c']))) c' (CodeO c' (X.env.qual ++ "<lambda>")) b = some o := by
        rw [upd_ne (ne_of_none e nC), upd_ne nb]
        exact e
      rw [upd_ne (ne_of_none e1 nF)]
      exact e1
    · exact upd_none (upd_none nF)
    · rw [upd_ne nFc]
      exact upd_same
  | some cv =>
    obtain ⟨c', rfl, hco⟩ := ha pos cv hc
    refine PySem.W.kla_makeFunctionHit (mg := X.mg) (closure_ok hfree) I.ok.glob (I.mod.glob.keeps I.bk) hcode (TB.code.keeps I.bk) hPo ht hc hbP ?_
    intro ctv h' tk hx hsz
    have I1 : Inv X pins σ H { s with heap := h', toks := tk } := I.kept hx
    have nF := I1.hok.fresh (a := h'.objs.size) (Nat.le_refl _)
    have I2 := lam_fn (tk' := tk) (q := X.env.qual ++ "<lambda>") (params := params) (body := body) (scope := scope) (cl := cloFrom X.env.cells scope.names []) (pm := (X.mg "__name__").getD .none) (ctv := ctv) (c' := c') I1
    refine h _ c' _ _ I2 (fun b o e nb => ?_) (fun b e => upd_none e) nF upd_same ?_
    · rw [upd_ne (ne_of_none e nF)]
      exact e
    · rw [upd_ne (ne_of_none hco nF)]
      exact hco
end
/-- the reading of a lambda that is made -/
def tLamb (q : Str) (P : Addr) (mk : Addr → Addr → HO) : TE := fun _ H Q => TabS H P q ∧ ∀ f c' H1, (∀ b o, H b = some o → b ≠ P → H1 b = some o) → (∀ b, H1 b = none → H b = none) → H f = none → H1 f = some (mk f c') → H1 c' = some (CodeO c' q) → Q (.ref f) H1
theorem pe_lamb {X : Cx} {q : Str} {c P : Addr} {params : Arguments} {body : Expr} {scope : Scope} {pos : Pos} (TB : TabB X.base X.mg c P) (hcode : X.env.code = .ref c) (hq : X.env.qual ++ "<lambda>" = q) (hdef : defaultsOf params X.env = ([], []))
    (hfree : ∀ y ∈ scope.names, y.2 = .free → X.env.scope.names.lookup y.1 = some .cell ∨ X.env.scope.names.lookup y.1 = some .free) :
    PE X (.Lambda params body scope pos) (tLamb q P fun f c' => LfO f q params body scope (cloFrom X.env.cells scope.names []) c') := by
  refine ⟨fun pins s σ H Q I h => ?_⟩
  obtain ⟨hT, h⟩ := h
  have hfr : ∀ y ∈ scope.names, y.2 = .free → ∃ c, X.env.cells.lookup y.1 = some c := fun y hy e => (hfree y hy e).elim (fun z => I.ok.has _ (.inl z)) fun z => I.ok.has _ (.inr z)
  exact lam_mk I TB hcode hq hT hdef hfr fun f c' H1 s' I1 h1 h2 h3 h4 h5 => ⟨.ref f, H1, I1, rfl, h f c' H1 h1 h2 h3 h4 h5⟩
/-! ### cells held fast for a while -/
abbrev fastO (o : Obj) : HO := .frz o (.ext fun _ => True)
def hold (cs : List (Addr × Obj)) (H : Hp) : Hp := fun a => match cs.lookup a with
  | some o => some (fastO o)
  | none => H a
def hide (cs : List (Addr × Obj)) (H : Hp) : Hp := fun a => match cs.lookup a with
  | some _ => none
  | none => H a
section
variable {cs : List (Addr × Obj)} {H : Hp} {a : Addr} {o : Obj}
theorem hold_in (h : cs.lookup a = some o) : hold cs H a = some (fastO o) := by simp only [hold, h]
theorem hold_out (h : cs.lookup a = none) : hold cs H a = H a := by simp only [hold, h]
theorem hide_in (h : cs.lookup a = some o) : hide cs H a = none := by simp only [hide, h]
theorem hide_out (h : cs.lookup a = none) : hide cs H a = H a := by simp only [hide, h]
end
/-- each of cs stands in the heap as it is told -/
def Stand (cs : List (Addr × Obj)) (h : Heap) : Prop := ∀ a o, cs.lookup a = some o → h.get? a = some o
def Held (cs : List (Addr × Obj)) (H : Hp) : Prop := ∀ a o, cs.lookup a = some o → H a = some (fastO o)
def Free (cs : List (Addr × Obj)) (H : Hp) : Prop := ∀ a o, cs.lookup a = some o → H a = none
section
variable {P : Program} {w : World} {K : PySem.W.Frag} {mg : Str → Option Value} {base : Heap} {A : Around} {outer : List Env} {s s' : Shared} {H H' : Hp} {cs : List (Addr × Obj)} {fs : List Addr} {h h' : Heap}
theorem Held.stand (x : Held cs H) (hok : HOk P w H h) : Stand cs h := fun a o e => by
  obtain ⟨z, _⟩ := hok a _ (x a o e)
  exact z
/-- an entry that is not held fast stays as it is -/
def Plain (H H' : Hp) : Prop := ∀ b u, H b = some u → (∀ o, u ≠ fastO o) → H' b = some u
theorem Plain.own {H H' : Hp} (x : Plain H H') (a b : Addr) (e : H b = some (.own a)) : H' b = some (.own a) := x b _ e fun o z => nomatch z
theorem Plain.tup {H H' : Hp} (x : Plain H H') (b : Addr) (xs : List V) (e : H b = some (.tup xs)) : H' b = some (.tup xs) := x b _ e fun o z => nomatch z
theorem Held.off {b : Addr} {u : HO} (x : Held cs H) (e : H b = some u) (n : ∀ o, u ≠ fastO o) : cs.lookup b = none := by
  cases hl : cs.lookup b with
  | none => rfl
  | some o =>
    rw [x b o hl] at e
    exact absurd (Option.some.inj e).symm (n o)
theorem Held.offN {b : Addr} (x : Held cs H) (e : H b = none) : cs.lookup b = none := by
  cases hl : cs.lookup b with
  | none => rfl
  | some o => rw [x b o hl] at e; cases e
theorem Free.off {b : Addr} {u : HO} (x : Free cs H) (e : H b = some u) : cs.lookup b = none := by
  cases hl : cs.lookup b with
  | none => rfl
  | some o => rw [x b o hl] at e; cases e
theorem Held.plain (x : Held cs H) : Plain H (hide cs H) := fun b u e n => by
  rw [hide_out (x.off e n)]
  exact e
theorem Free.plain (x : Free cs H) : Plain H (hold cs H) := fun b u e _ => by
  rw [hold_out (x.off e)]
  exact e
theorem hok_hide (hok : HOk P w H h) (x : Held cs H) : HOk P w (hide cs H) h := fun a o e => by
  cases hl : cs.lookup a with
  | some ob => rw [hide_in hl] at e; cases e
  | none =>
    rw [hide_out hl] at e
    exact (hok a o e).stay (fun _ _ _ q => q) (x.plain.own a) x.plain.tup
theorem hok_hold (hok : HOk P w H h) (x : Free cs H) (st : Stand cs h) : HOk P w (hold cs H) h := fun a o e => by
  cases hl : cs.lookup a with
  | some ob =>
    rw [hold_in hl] at e
    cases e
    exact ⟨st a ob hl, True.intro, ⟨ob, st a ob hl⟩, fun _ _ _ _ => True.intro⟩
  | none =>
    rw [hold_out hl] at e
    exact (hok a o e).stay (fun _ _ _ q => q) (x.plain.own a) x.plain.tup
theorem env0_hide (e0 : Env0 P w K mg base A outer s H) (x : Held cs H) : Env0 P w K mg base A outer s (hide cs H) :=
  ⟨e0.frames, e0.mod, fun b o e => ⟨(e0.bs b o e).1, by rw [hide_out (x.offN (e0.bs b o e).2)]; exact (e0.bs b o e).2⟩, e0.bsz, e0.funs, fun b hb => by rw [hide_out (x.offN (e0.frf b hb))]; exact e0.frf b hb, hok_hide e0.hok x, e0.bare⟩
theorem env0_hold (e0 : Env0 P w K mg base A outer s H) (x : Free cs H) (st : Stand cs s.heap) (nb : ∀ a o, cs.lookup a = some o → base.get? a = none ∧ a ∉ frs outer) : Env0 P w K mg base A outer s (hold cs H) := by
  have out : ∀ b, (∃ o, base.get? b = some o) ∨ b ∈ frs outer → cs.lookup b = none := fun b hb => by
    cases hl : cs.lookup b with
    | none => rfl
    | some o =>
      obtain ⟨n1, n2⟩ := nb b o hl
      rcases hb with ⟨ob, z⟩ | z
      · rw [n1] at z; cases z
      · exact absurd z n2
  exact ⟨e0.frames, e0.mod, fun b o e => ⟨(e0.bs b o e).1, by rw [hold_out (out b (.inl ⟨o, e⟩))]; exact (e0.bs b o e).2⟩, e0.bsz, e0.funs, fun b hb => by rw [hold_out (out b (.inr hb))]; exact e0.frf b hb, hok_hold e0.hok x st, e0.bare⟩
/-- behind code that ran while the cells were let go -/
theorem un_hide (u : Un fs [] (hide cs H) H' h h') (x : Held cs H) (st : Stand cs h) (nf : ∀ b ∈ fs, H b = none) : Free cs H' ∧ Stand cs h' ∧ Un fs [] H (hold cs H') h h' := by
  have nx : ∀ b : Addr, b ∉ ([] : List Addr) := fun b z => nomatch z
  refine ⟨fun a o e => u.free a o (st a o e) (hide_in e) (nx a), fun a o e => u.keep a o (st a o e) (hide_in e) (fun z => ?_) (nx a), ⟨fun b o e n hb hx => ?_, fun b o e n hb hx => ?_, fun b o e n hx => ?_, u.there, fun b xs e => ?_, fun b o v e => ?_, fun b ps e => ?_⟩⟩
  · have z1 := nf a z
    rw [x a o e] at z1
    cases z1
  · exact u.keep b o e (by rw [hide_out (x.offN n)]; exact n) hb hx
  · exact u.slot b o e (by rw [hide_out (x.offN n)]; exact n) hb hx
  · rw [hold_out (x.offN n)]
    exact u.free b o e (by rw [hide_out (x.offN n)]; exact n) hx
  · have hl := x.off e fun o z => nomatch z
    rw [hold_out hl]
    exact u.tups b xs (by rw [hide_out hl]; exact e)
  · cases hl : cs.lookup b with
    | some ob =>
      rw [x b ob hl] at e
      rw [hold_in hl]
      exact e
    | none =>
      rw [hold_out hl]
      exact u.frzs b o v (by rw [hide_out hl]; exact e)
  · have hl := x.off e fun o z => nomatch z
    rw [hold_out hl]
    exact u.tbls b ps (by rw [hide_out hl]; exact e)
/-- behind code that ran while they were held fast -/
theorem un_hold (u : Un fs [] (hold cs H) H' h h') (x : Free cs H) (st : Stand cs h) (hok : HOk P w H' h') : Held cs H' ∧ Stand cs h' ∧ Un fs [] H (hide cs H') h h' := by
  have hd : Held cs H' := fun a o e => u.frzs a o _ (hold_in e)
  have st' := hd.stand hok
  refine ⟨hd, st', ⟨fun b o e n hb hx => ?_, fun b o e n hb hx => ?_, fun b o e n hx => ?_, u.there, fun b xs e => ?_, fun b o v e => ?_, fun b ps e => ?_⟩⟩
  · cases hl : cs.lookup b with
    | some ob =>
      have z := st b ob hl
      rw [e] at z
      cases z
      exact st' b o hl
    | none => exact u.keep b o e (by rw [hold_out hl]; exact n) hb hx
  · cases hl : cs.lookup b with
    | some ob =>
      have z := st b ob hl
      rw [e] at z
      cases z
      exact ⟨o.slots, st' b o hl⟩
    | none => exact u.slot b o e (by rw [hold_out hl]; exact n) hb hx
  · cases hl : cs.lookup b with
    | some ob => exact hide_in hl
    | none =>
      rw [hide_out hl]
      exact u.free b o e (by rw [hold_out hl]; exact n) hx
  · have hl := x.off e
    rw [hide_out hl]
    exact u.tups b xs (by rw [hold_out hl]; exact e)
  · have hl := x.off e
    rw [hide_out hl]
    exact u.frzs b o v (by rw [hold_out hl]; exact e)
  · have hl := x.off e
    rw [hide_out hl]
    exact u.tbls b ps (by rw [hold_out hl]; exact e)
end
/-! ### what captured cells hold -/
structure CapsAt (cl : List (Str × Addr)) (fr : List Str) (ws : List (Option V)) (cs : List (Addr × Obj)) : Prop where
  len : ws.length = fr.length
  all : ∀ y c, cl.lookup y = some c → ∃ o v, cs.lookup c = some o ∧ o.data = .cell v
  inj : ∀ x y c, cl.lookup x = some c → cl.lookup y = some c → x = y
  has : ∀ (i : Nat) (y : Str), fr[i]? = some y → ∃ c o, cl.lookup y = some c ∧ cs.lookup c = some o ∧ ∀ v, ws[i]? = some (some v) → ∃ u, L2.RelV v u ∧ o.data = .cell (some u)
theorem CapsAt.cells {cl : List (Str × Addr)} {fr : List Str} {ws : List (Option V)} {cs : List (Addr × Obj)} {h : Heap} {H : Hp} (C : CapsAt cl fr ws cs) (st : Stand cs h) : CellsAt cl fr ws h (hide cs H) := by
  refine ⟨C.len, fun y c e => ?_, C.inj, fun i y e => ?_⟩
  · obtain ⟨o, v, h1, h2⟩ := C.all y c e
    exact ⟨hide_in h1, v, o, st c o h1, h2⟩
  · obtain ⟨c, o, h1, h2, h3⟩ := C.has i y e
    refine ⟨c, h1, fun v ev => ?_⟩
    obtain ⟨u, r, hd⟩ := h3 v ev
    exact ⟨u, r, o, st c o h2, hd⟩
theorem look_mem {α : Type} {a : Addr} {o : α} : ∀ {l : List (Addr × α)}, l.lookup a = some o → (a, o) ∈ l
  | [], h => nomatch h
  | (b, u) :: l, h => by
    by_cases e : a = b
    · subst e
      rw [List.lookup_cons, beq_self_eq_true] at h
      cases h
      exact List.mem_cons_self ..
    · have z : (a == b) = false := by simpa using e
      rw [List.lookup_cons, z] at h
      exact List.mem_cons_of_mem _ (look_mem h)
theorem look_has {α : Type} {a : Addr} {o : α} : ∀ {l : List (Addr × α)}, (a, o) ∈ l → ∃ u, l.lookup a = some u
  | (b, u) :: l, h => by
    by_cases e : a = b
    · subst e
      exact ⟨u, by rw [List.lookup_cons, beq_self_eq_true]⟩
    · have z : (a == b) = false := by simpa using e
      rcases List.mem_cons.mp h with h | h
      · cases h; exact absurd rfl e
      · obtain ⟨v, hv⟩ := look_has h
        exact ⟨v, by rw [List.lookup_cons, z]; exact hv⟩
section
variable {X : Cx} {pins : List (Addr × Obj)} {σ : L2.St} {H : Hp} {s : Shared} {cl : List (Str × Addr)} {fr : List Str} {js : List Nat}
theorem caps_cs (I : Inv X pins σ H s) (hfn : ∀ y, X.fn y = true) (cp : Caps X cl fr js) (hcl : ∀ y c, (y, c) ∈ cl → X.env.cells.lookup y = some c) :
    ∃ cs, CapsAt cl fr (js.map (slotAt σ)) cs ∧ Stand cs s.heap ∧ Free cs H ∧ ∀ a o, cs.lookup a = some o → X.base.get? a = none ∧ a ∉ frs X.stack := by
  have C := cells_of I cp
  have mem : ∀ a o, (a, o) ∈ (cl.filterMap fun p => (s.heap.get? p.2).map fun o => (p.2, o)) → (∃ y, (y, a) ∈ cl) ∧ s.heap.get? a = some o := fun a o h => by
    obtain ⟨⟨y, b⟩, h1, h2⟩ := List.mem_filterMap.mp h
    cases hg : s.heap.get? b with
    | none => simp only [hg] at h2; cases h2
    | some ob =>
      simp only [hg, Option.map_some, Option.some.injEq, Prod.mk.injEq] at h2
      obtain ⟨rfl, rfl⟩ := h2
      exact ⟨⟨y, h1⟩, hg⟩
  have got : ∀ y c, cl.lookup y = some c → ∀ o, s.heap.get? c = some o → (cl.filterMap fun p => (s.heap.get? p.2).map fun o => (p.2, o)).lookup c = some o := fun y c e o ho => by
    obtain ⟨u, hu⟩ := look_has (List.mem_filterMap.mpr ⟨(y, c), PySem.mem_of_lookup e, by simp only [ho, Option.map_some]⟩ : (c, o) ∈ (cl.filterMap fun p => (s.heap.get? p.2).map fun o => (p.2, o)))
    have z := (mem c u (look_mem hu)).2
    rw [ho] at z
    cases z
    exact hu
  refine ⟨_, ⟨C.len, fun y c e => ?_, C.inj, fun i y e => ?_⟩, fun a o e => (mem a o (look_mem e)).2, fun a o e => ?_, fun a o e => ?_⟩
  · obtain ⟨_, v, o, ho, hd⟩ := C.all y c e
    exact ⟨o, v, got y c e o ho, hd⟩
  · obtain ⟨c, hc, hv⟩ := C.has i y e
    obtain ⟨_, v, o, ho, hd⟩ := C.all y c hc
    refine ⟨c, o, hc, got y c hc o ho, fun v' ev => ?_⟩
    obtain ⟨u, r, o', ho', hd'⟩ := hv v' ev
    rw [ho] at ho'
    cases ho'
    exact ⟨u, r, hd'⟩
  · obtain ⟨⟨y, hy⟩, _⟩ := mem a o (look_mem e)
    exact I.freeC y a (hcl y a hy)
  · obtain ⟨⟨y, hy⟩, _⟩ := mem a o (look_mem e)
    have hc := hcl y a hy
    have hge := I.ok.cab y a (hfn y) hc
    refine ⟨Heap.get?_none_of_le (Nat.le_trans I.ok.bsz hge), fun z => ?_⟩
    rcases List.mem_cons.mp (I.stkSub a z) with z | z
    · exact I.cne y a hc z
    · obtain ⟨_, ob, hob, _⟩ := I.ok.funs.mem z
      exact absurd (Nat.lt_of_lt_of_le (Heap.lt_size hob) hge) (Nat.lt_irrefl _)
theorem clo_cells {scope : Scope} (ok : X.Ok) (hfree : ∀ y ∈ scope.names, y.2 = .free → X.env.scope.names.lookup y.1 = some .cell ∨ X.env.scope.names.lookup y.1 = some .free) (y : Str) (c : Addr) (h : (y, c) ∈ cloFrom X.env.cells scope.names []) : X.env.cells.lookup y = some c := by
  rcases cloFrom_mem h with z | ⟨h1, h2⟩
  · cases z
  · obtain ⟨d, hd⟩ : ∃ d, X.env.cells.lookup y = some d := (hfree _ h1 rfl).elim (fun z => ok.has _ (.inl z)) fun z => ok.has _ (.inr z)
    rw [hd] at h2
    rw [hd, h2]
    rfl
/-- a def called while the captured cells are held fast -/
theorem run_held {k n : Nat} {f : Addr} {fd : FuncData} {ps ks : List Str} {sp : Sp} {g : List Value → List Value → List Value} {gV : List V → List V → List V} {Q : VK} {us ws : List Value} {vs zs : List V} {cs : List (Addr × Obj)} (F : FnOk X.prog X.w X.K X.mg X.base (L2N.CX X.prog X.w) k f fd ps sp) (hr : Room k X.A) (hb : KBn X.K fd ps n ks g gV)
    (I : Inv X pins σ H s) (r : Vals vs us) (rz : Vals zs ws) (l1 : vs.length = n) (l2 : zs.length = ks.length) (st : Stand cs s.heap) (fr : Free cs H) (nb : ∀ a o, cs.lookup a = some o → X.base.get? a = none ∧ a ∉ frs X.stack)
    (h : sp (gV vs zs) (hold cs H) (fun v H' => Q v (hide cs H')) fun _ _ _ => False) : wpAny (model X.prog X.w) X.A (call (.ref f) us (ks.zip ws)) (EP X pins σ Q) X.xe s := by
  have r2 := hb.rel r rz
  have b2 := hb.to s us ws I.kIn (r.length.symm.trans l1) (rz.length.symm.trans l2)
  refine wpAny_call (codeAny_mono (F.run X.A X.stack s (hold cs H) ⟨us, ks.zip ws⟩ (g us ws) (gV vs zs) _ _ hr (env0_hold I.env0 fr st nb) b2 r2 h) ?_)
  intro res s3 hq
  match res, hq with
  | .error e, hq =>
    obtain ⟨_, _, _, _, _, _, _, _, _, _, _, _, z⟩ := (show L2N.CX X.prog X.w X.stack (hold cs H) s _ e s3 from hq)
    exact z.elim
  | .ok (.ret u), hq =>
    obtain ⟨v, H', e1, e2, e3, e4, e5, e6⟩ := (show CE X.stack X.prog X.w (hold cs H) s _ u s3 from hq)
    obtain ⟨k1, k2, k3⟩ := un_hold e3 fr st e4
    exact I.after ⟨v, hide cs H', e1, e2, k3, hok_hide e4 k1, e5, e6⟩
  | .ok .next, hq => exact (show False from hq).elim
  | .ok .brk, hq => exact (show False from hq).elim
  | .ok .cont, hq => exact (show False from hq).elim
/-- o.m(e, .., k = v, ..), the captured cells held fast -/
def tMethH (C : Addr) (m : Str) (n j : Nat) (cl : List (Str × Addr)) (fr : List Str) (js : List Nat) (sp : Sp) (gV : List V → List V → List V) (ta : TE) (t tk : TA) : TE := fun σ H Q => ta σ H fun x H0 => ∃ a dx fs, x = .ref a ∧ H0 a = some (.ins C dx fs) ∧ fs.lookup m = none ∧ t σ H0 fun vs H1 => tk σ H1 fun zs H2 => vs.length + 1 = n ∧ zs.length = j ∧
  ∀ cs, CapsAt cl fr (js.map (slotAt σ)) cs → Free cs H2 → sp (gV (.ref a :: vs) zs) (hold cs H2) (fun v H' => Q v (hide cs H')) fun _ _ _ => False
theorem pe_methH {C g : Addr} {m : Str} {k n : Nat} {fd : FuncData} {qs ks : List Str} {o e : Expr} {es : List Expr} {kws : List Keyword} {ta : TE} {t tk : TA} {sp : Sp} {gg : List Value → List Value → List Value} {gV : List V → List V → List V} {pl : Sem Bool} {apos pos : Pos} (he : PE X o ta) (c : Cls X.K C) (hm : Meth X.K C m g)
    (F : FnOk X.prog X.w X.K X.mg X.base (L2N.CX X.prog X.w) k g fd qs sp) (hr : Room k X.A) (hb : KBn X.K fd qs n ks gg gV) (ha : PA X (e :: es) t) (hkw : PK X kws tk) (hfn : ∀ y, X.fn y = true) (cp : X.Ok → Caps X cl fr js) (hcl : X.Ok → ∀ y c, (y, c) ∈ cl → X.env.cells.lookup y = some c)
    (hall : (backToKw pos (keywordEach kws X.env)).all (·.1.isSome) = true := by rfl) (hks : (backToKw pos (keywordEach kws X.env)).filterMap (·.1) = ks := by rfl)
    (hst : starEach (e :: es) X.env = (false, eval e X.env) :: starEach es X.env := by rfl) (hpl : ((backTo pos (starEach (e :: es) X.env)).any (·.1) || (backToKw pos (keywordEach kws X.env)).any (·.1.isNone)) = false := by rfl)
    (ht : eval (.Call (.Attribute o m apos) (e :: es) kws pos) X.env = (do
      let ov ← eval o X.env
      standAt apos.atName
      let (f, first) ← holding [ov] (getMethod ov m pl)
      callWith pos f first (backTo pos (starEach (e :: es) X.env)) (backToKw pos (keywordEach kws X.env))) := by rfl) :
    PE X (.Call (.Attribute o m apos) (e :: es) kws pos) (tMethH C m n ks.length cl fr js sp gV ta t tk) := by
  refine ⟨fun pins s σ H Q I h => ?_⟩
  refine PySem.W.methodCall_KW (pl := pl) (thn (he.run pins s σ H _ I h) ?_) ht
  rintro u s1 ⟨x, H1, I1, rx, a, dx, fs, rfl, ea, l, q⟩
  obtain rfl : u = Value.ref a := rx
  refine getmeth_ok I1 ea c hm l ?_
  refine PySem.W.callWith_KW (first := [.ref a]) (h₀ := X.base) I.ok.mod.kin hm.kp hall (thn (ha.run pos pins s1 σ H1 _ I1 q) ?_) hpl hst
  rintro us s2 ⟨vs, H2, I2, r, q2⟩
  refine thn (hkw.run pos pins s2 σ H2 _ I2 q2) ?_
  rintro ws s3 ⟨zs, H3, I3, rz, l1, l2, q3⟩
  obtain ⟨cs, c1, c2, c3, c4⟩ := caps_cs I3 hfn (cp I3.ok) (hcl I3.ok)
  refine ⟨I3.kIn, ?_⟩
  rw [hks]
  exact run_held (us := .ref a :: us) (vs := .ref a :: vs) F hr hb I3 (.cons rfl r) rz l1 l2 c2 c3 c4 (q3 cs c1 c3)
end
/-! ### a function object, known by what the heap holds of it -/
structure CbOk (P : Program) (w : World) (K : PySem.W.Frag) (mg : Str → Option Value) (base : Heap) (k : Nat) (f : Addr) (o : HO) (sp : Sp) : Prop where
  at_ : ∀ (H : Hp) (h : Heap), HOk P w H h → H f = some o → PySem.W.FnAt f h
  run : ∀ (A : Around) (outer : List Env) (s : Shared) (H : Hp) (us : List Value) (vs : List V) (Q : VK) (E : XK), Room k A → Env0 P w K mg base A outer s H → H f = some o → Vals vs us → sp vs H Q E →
    codeAny (model P w) A (.call (.ref f) ⟨us, []⟩) (CR (L2N.CX P w) outer P w H s Q E) s
abbrev lamF (q : Str) (scope : Scope) (cl : List (Str × Addr)) (c : Addr) : NF := ⟨"<lambda>", q, ⟨[], [], none, [], [], none, []⟩, [], scope, cl, c⟩
/-- the lambda's promise, by its body; the cells that it captured are held fast outside of it -/
theorem cb_lam {P : Program} {w : World} {K : PySem.W.Frag} {mg : Str → Option Value} {base : Heap} {k : Nat} {f c : Addr} {q : Str} {params : Arguments} {body : Expr} {scope : Scope} {cl : List (Str × Addr)} {N ps fr : List Str} {ws : List (Option V)} {cs : List (Addr × Obj)} {sp : Sp} {te : XK → TE}
    (S : NScope N ps fr scope) (C : CapsAt cl fr ws cs) (hb : ∀ (pm ctv : Value) (us : List Value), us.length = ps.length → bindArgs (PySem.W.kla_fn "<lambda>" q params body scope cl pm (.ref c) ctv) ⟨us, []⟩ = pure (ps.zip us)) (len : ∀ vs H Q E, sp vs H Q E → vs.length = ps.length)
    (hbody : ∀ (A : Around) (outer : List Env) (s : Shared) (H : Hp) (vs : List V) (Q : VK), Room k (A.deeper (envF (lamF q scope cl c) f s.heap.objs.size)) → sp vs H Q (fun _ _ _ => False) → ∃ te, PE (ncx (L2N.CX P w) P w K mg base N (lamF q scope cl c) f A outer s H fun _ _ _ => False) body te ∧ te (startF N vs ws) H Q) :
    CbOk P w K mg base (k + 1) f (LfO f q params body scope cl c) (fun vs H Q E => H c = some (CodeO c q) ∧ Held cs H ∧ sp vs (hide cs H) (fun v H' => Q v (hold cs H')) fun _ _ _ => False) := by
  refine ⟨fun H h hok e => ?_, fun A outer s H us vs Q E hr e0 hf r hsp => ?_⟩
  · obtain ⟨pm, ctv, ho⟩ := lfO_at hok e
    exact ⟨_, _, _, _, ho⟩
  obtain ⟨hc, hh, hsp⟩ := hsp
  have hl := len _ _ _ _ hsp
  have st : Stand cs s.heap := hh.stand e0.hok
  have e1 := env0_hide e0 hh
  have lim : s.heap.NoLimit := e0.mod.nolimit.keeps fun b o e => (e0.bs b o e).1
  obtain ⟨pm, ctv, ho⟩ := lfO_at e0.hok hf
  refine PySem.W.kla_callFunE hr.depth ho rfl S.co S.gen rfl (codeO_at e0.hok hc) ?_
  rw [hb pm ctv us (by rw [← r.length]; exact hl)]
  refine wpAny_pure (wpAny_newFunctionEnv S.nocell (fun ⟨n, _⟩ hy => S.par n (List.of_mem_zip hy).1) (fun h₁ hns hsb => ⟨lim.fresh _ hsb, ?_⟩) S.kind)
  have kp : ∀ b o, s.heap.get? b = some o → h₁.get? b = some o := fun b o e => hsb.extBut b o (Nat.ne_of_lt (Heap.lt_size e)) (Heap.get?_push_of_some _ e)
  obtain ⟨te, ht, hq⟩ := hbody A outer s (hide cs H) vs _ (hr.deeper _) hsp
  have I := inv_startN (CX := L2N.CX P w) (F := lamF q scope cl c) (f := f) (E := fun _ _ _ => False) (tk := s.toks + (ps.zip us).length) S hr.hd e1 hl r (C.cells (H := H) st) hns kp
  show codeAny _ _ (.expr body (envF (lamF q scope cl c) f s.heap.objs.size)) _ _
  refine PySem.W.kla_codeExpr (wpAny_mono (ht.run [] _ (startF N vs ws) (hide cs H) _ I hq) (fun u s' hs => ?_) fun e s' hs => ?_)
  · obtain ⟨v, H', J, rv, hv⟩ := hs
    obtain ⟨k1, k2, k3⟩ := un_hide J.base hh st e0.frf
    exact ⟨v, hold cs H', J.os, J.bare, k3, hok_hold J.hok k1 k2, rv, hv⟩
  · have z : ∀ e'' s'', ¬ L2N.CX P w outer (hide cs H) s (fun _ _ _ => False) e'' s'' := fun e'' s'' ⟨_, _, _, _, _, _, _, _, _, _, _, _, y⟩ => y
    exact wpAny_mono hs (fun _ s'' y => absurd y (z _ _)) fun _ s'' y => absurd y (z _ _)
end LX
end
open PySem PySem.Spec PyProof.Rows L2 Evl W1 D1 TX
local macro_rules
  | `(tactic| walk_at "dp") => `(tactic| first
    | assumption
    | exact .int _
    | exact .bl _
    | exact .str _
    | exact .non
    | (refine dp_ex (by assumption) ?_; walk_at "dp"))
local macro_rules
  | `(tactic| walk_at "vis") => `(tactic| first
    | exact .inl rfl
    | exact .inr (.inl rfl)
    | exact .inr (.inr rfl))
local macro_rules
  | `(tactic| walk_at "var") => `(tactic| first
    | (apply x_var 0; (rfl); (walk_at "vis"); (rfl); (walk_at "dp"); (rfl); (rfl))
    | (apply x_var 1; (rfl); (walk_at "vis"); (rfl); (walk_at "dp"); (rfl); (rfl))
    | (apply x_var 2; (rfl); (walk_at "vis"); (rfl); (walk_at "dp"); (rfl); (rfl))
    | (apply x_var 3; (rfl); (walk_at "vis"); (rfl); (walk_at "dp"); (rfl); (rfl))
    | (apply x_var 4; (rfl); (walk_at "vis"); (rfl); (walk_at "dp"); (rfl); (rfl))
    | (apply x_var 5; (rfl); (walk_at "vis"); (rfl); (walk_at "dp"); (rfl); (rfl))
    | (apply x_var 6; (rfl); (walk_at "vis"); (rfl); (walk_at "dp"); (rfl); (rfl))
    | (apply x_var 7; (rfl); (walk_at "vis"); (rfl); (walk_at "dp"); (rfl); (rfl))
    | (apply x_var 8; (rfl); (walk_at "vis"); (rfl); (walk_at "dp"); (rfl); (rfl))
    | (apply x_var 9; (rfl); (walk_at "vis"); (rfl); (walk_at "dp"); (rfl); (rfl))
    | (apply x_var 10; (rfl); (walk_at "vis"); (rfl); (walk_at "dp"); (rfl); (rfl))
    | (apply x_var 11; (rfl); (walk_at "vis"); (rfl); (walk_at "dp"); (rfl); (rfl))
    | (apply x_var 12; (rfl); (walk_at "vis"); (rfl); (walk_at "dp"); (rfl); (rfl))
    | (apply x_var 13; (rfl); (walk_at "vis"); (rfl); (walk_at "dp"); (rfl); (rfl)))
local macro_rules
  | `(tactic| walk_at "kit") => `(tactic| first
    | exact TX.kit_ii
    | exact TX.kit_ni
    | exact TX.kit_ib
    | exact TX.kit_tt
    | exact TX.kit_ss)
local macro_rules
  | `(tactic| walk_at "ev") => `(tactic| first
    | exact d_int
    | exact d_str
    | exact d_none
    | exact d_bl
    | walk_at "var"
    | (apply x_gi; (rfl); (assumption); (rfl))
    | (apply x_gs; (rfl); (assumption); (rfl))
    | (apply d_add; (walk_at "ev"); (walk_at "ev"))
    | (apply d_sub; (walk_at "ev"); (walk_at "ev"))
    | (apply x_chain; (walk_at "ev"); (walk_at "ev"); (walk_at "ev"); (with_unfolding_all rfl))
    | (apply d_le; (walk_at "ev"); (walk_at "ev"))
    | (apply d_lt; (walk_at "ev"); (walk_at "ev"))
    | (apply d_gt; (walk_at "ev"); (walk_at "ev"))
    | (apply d_ge; (walk_at "ev"); (walk_at "ev"))
    | (apply d_not; (walk_at "ev"))
    | (apply d_and; (walk_at "ev"); (intro _; walk_at "ev"))
    | (apply d_or; (walk_at "ev"); (intro _; walk_at "ev"))
    | (apply d_one; (walk_at "ev"))
    | (apply i_int; (rfl); (rfl); (assumption); (walk_at "ev"); (walk_at "kit"); (rfl); (rfl); (rfl))
    | (apply i_bool; (rfl); (rfl); (assumption); (walk_at "ev"); (walk_at "kit"); (rfl); (rfl); (rfl))
    | (apply i_tuple; (rfl); (rfl); (assumption); (walk_at "ev"); (walk_at "kit"); (rfl); (rfl); (rfl))
    | (apply i_str; (rfl); (rfl); (assumption); (walk_at "ev"); (walk_at "kit"); (rfl); (rfl); (rfl))
    | (apply x_lenT; (rfl); (assumption); (walk_at "ev"); (rfl))
    | (apply x_lenL; (rfl); (assumption); (walk_at "ev"); (rfl))
    | (apply x_sumT; (rfl); (rfl); (assumption); (walk_at "ev"); (rfl))
    | (apply d_slT; (walk_at "ev"); (walk_at "eo"); (walk_at "eo")))
local macro_rules
  | `(tactic| walk_at "eo") => `(tactic| first
    | exact o_none
    | (apply o_some; (walk_at "ev")))
local macro_rules
  | `(tactic| walk_at "ea") => `(tactic| first
    | exact a_nil
    | (apply z_cons; (walk_at "ev"); (walk_at "ea"); (rfl)))
local macro_rules
  | `(tactic| walk_at "eb") => `(tactic| first
    | (apply y_chain; (walk_at "ev"); (walk_at "ev"); (walk_at "ev"); (with_unfolding_all rfl))
    | (apply b_lt; (walk_at "ev"); (walk_at "ev"))
    | (apply b_le; (walk_at "ev"); (walk_at "ev"))
    | (apply b_gt; (walk_at "ev"); (walk_at "ev"))
    | (apply b_ge; (walk_at "ev"); (walk_at "ev"))
    | (apply b_isN; (walk_at "ev"))
    | (apply b_notN; (walk_at "ev"))
    | (apply b_not; (walk_at "eb"))
    | (apply EvW.tob; (walk_at "ew"))
    | (apply y_val; (walk_at "ev"); (intro _; rfl)))
local macro_rules
  | `(tactic| walk_at "ew") => `(tactic| first
    | (apply w_and1; (walk_at "eb"))
    | (apply w_or1; (walk_at "eb"))
    | (apply w_and; (walk_at "eb"); (intro _; walk_at "ew"))
    | (apply w_or; (walk_at "eb"); (intro _; walk_at "ew")))
section
namespace TX
open PySem PySem.Spec PyProof.Rows L2 Evl W1 D1
section
variable {P : Program} {w : World} {K : PySem.W.Frag} {mg : Str → Option Value} {base : Heap}
/-! ### is_integer, is_length -/
def intIn (d : PyData) (lo hi : Int) : Bool := match d with
  | .int i => decide (lo ≤ i) && decide (i ≤ hi)
  | _ => false
/-- an int or None -/
def IntO (d : PyData) : Prop := d = .none ∨ ∃ i, d = .int i
def R_is_integer : List PyData → PyData → Prop := fun ds r => ∃ d lo hi, ds = [d, .int lo, .int hi] ∧ IntO d ∧ r = .bool (intIn d lo hi)
theorem is_integer_ok (D : Df K mg "is_integer" s_is_integer) (B : Bi mg) : Gf P w K mg base 1 "is_integer" P_is_integer (Spf K R_is_integer) := by
  refine D.gf 0 sc_is_integer (Spf_len (n := 3) fun ds r h => ?_) (fun _ _ _ _ _ _ us hl => match us, hl with | [_, _, _], _ => rfl) fun cdv A outer s H vs Q E hr h => ?_
  · obtain ⟨_, _, _, rfl, _⟩ := h
    rfl
  · obtain ⟨ds, r, ⟨d, lo, hi, rfl, hd, rfl⟩, ha, hQ⟩ := h
    obtain ⟨x, y, z, rfl, hx, hy, hz⟩ := dpa3 ha
    cases hy; cases hz
    refine bl_retD (d := .bool (intIn d lo hi)) ?_ rfl hQ
    rcases hd with rfl | ⟨i, rfl⟩
    · refine EvD.is (d := .bool (false && false)) (d_and (k := false) (l := false) ?_ fun z => nomatch z) rfl
      walk_at "ev"
    · refine EvD.is (d := .bool (true && (!false && (decide (lo ≤ i) && decide (i ≤ hi))))) (d_and (k := true) ?_ fun _ => d_and (k := !false) ?_ fun _ => d_one ?_) rfl
      · walk_at "ev"
      · walk_at "ev"
      · walk_at "ev"
end
end TX
end
section
namespace TX
open PySem PySem.Spec PyProof.Rows L2 Evl W1 D1 MM
section
variable {P : Program} {w : World} {K : PySem.W.Frag} {mg : Str → Option Value} {base : Heap}
theorem fe0 {X : Cx} {H H' : Hp} {Q : VK} {v : V} {d : PyData} (h : ∀ v H', Ex H H' → Dp X.K H' v d → Q v H') (e : Ex H H') (hv : Dp X.K H' v d) : Q v H' := h v H' e hv
def R_is_length : List PyData → PyData → Prop := fun ds r => ∃ d, ds = [d] ∧ IntO d ∧ r = .bool (intIn d 1 60)
theorem is_length_ok (D : Df K mg "is_length" s_is_length) (G : Gf P w K mg base 1 "is_integer" P_is_integer (Spf K R_is_integer)) (C : Co mg) : Gf P w K mg base 2 "is_length" P_is_length (Spf K R_is_length) := by
  refine D.gf 1 sc_is_length (Spf_len (n := 1) fun ds r h => ?_) (fun _ _ _ _ _ _ us hl => match us, hl with | [_], _ => rfl) fun cdv A outer s H vs Q E hr h => ?_
  · obtain ⟨_, rfl, _⟩ := h
    rfl
  · obtain ⟨ds, r, ⟨d, rfl, hd, rfl⟩, ha, hQ⟩ := h
    obtain ⟨x, rfl, hx⟩ := dpa1 ha
    have hL := C.length
    refine bl_retD (d_call G hr (by rfl) (ds := [d, .int 1, .int 60]) ?_ ⟨d, 1, 60, rfl, hd, rfl⟩) rfl hQ
    walk_at "ea"
/-- raises NoPlace, or answers nothing -/
def S_check_place (K : PySem.W.Frag) : Sp := fun vs H Q E => ∃ (r : List Int) (i : Int), DpAll K H vs [rowD r, .int i] ∧ (0 ≤ i ∧ i < r.length → ∀ H', Ex H H' → Q .non H') ∧ (¬ (0 ≤ i ∧ i < r.length) → Rs K H E "NoPlace" "value" (.int i))
theorem check_place_ok (D : Df K mg "check_place" s_check_place) (G : Gf P w K mg base 1 "is_integer" P_is_integer (Spf K R_is_integer)) (B : Bi mg) (C : Er K mg "NoPlace" "value") : Gf P w K mg base 3 "check_place" P_check_place (S_check_place K) := by
  refine D.gf 2 sc_check_place (fun vs H Q E h => ?_) (fun _ _ _ _ _ _ us hl => match us, hl with | [_, _], _ => rfl) fun cdv A outer s H vs Q E hr h => ?_
  · obtain ⟨_, _, ha, _⟩ := h
    exact dpa_length ha
  · obtain ⟨r, i, ha, h1, h2⟩ := h
    obtain ⟨x, y, rfl, hx, hy⟩ := dpa2 ha
    cases hy
    have hx' : Dp K H x (.tuple (r.map .int)) := hx
    refine bl_when (k := !intIn (.int i) 0 (((r.map PyData.int).length : Int) - 1)) (b_not (b_val (d_call G (hr.mono (by decide)) (by rfl) (ds := [.int i, .int 0, .int (((r.map PyData.int).length : Int) - 1)]) ?_ ⟨_, _, _, rfl, .inr ⟨i, rfl⟩, rfl⟩))) (fun hk H1 e1 => ?_) fun hk H1 e1 => ?_
    · walk_at "ea"
    · have hn : ¬ (0 ≤ i ∧ i < r.length) := fun z => by
        simp only [intIn, List.length_map, Bool.not_eq_true', Bool.and_eq_false_iff, decide_eq_false_iff_not] at hk
        omega
      exact bl_raise1 (E := E) (L2N.takes_of rfl rfl rfl rfl) rfl C hr (by rfl) (by walk_at "ev") ((h2 hn).ex e1)
    · have hp : 0 ≤ i ∧ i < r.length := by
        simp only [intIn, List.length_map, Bool.not_eq_false', Bool.and_eq_true, decide_eq_true_eq] at hk
        omega
      exact bl_nil (h1 hp H1 e1)
def R_extent_of : List PyData → PyData → Prop := fun ds r => ∃ (row : List Int) (a b : Nat), ds = [rowD row, .int a, .int b] ∧ a ≤ b ∧ b < row.length ∧ r = .int (ext row a b)
theorem cut_row (row : List Int) (a b : Nat) (hb : b ≤ row.length) (ha : a ≤ b) : D1.cutD (row.map PyData.int) (some (a : Int)) (some (b : Int)) = ((row.drop a).take (b - a)).map PyData.int := by
  unfold D1.cutD
  rw [HT.sIx_nat, HT.sIx_nat, List.length_map, Nat.min_eq_left hb, Nat.min_eq_left (Nat.le_trans ha hb), ← List.map_drop, ← List.map_take]
theorem extent_of_ok (D : Df K mg "extent_of" s_extent_of) (B : Bi mg) : Gf P w K mg base 1 "extent_of" P_extent_of (Spf K R_extent_of) := by
  refine D.gf 0 sc_extent_of (Spf_len (n := 3) fun ds r h => ?_) (fun _ _ _ _ _ _ us hl => match us, hl with | [_, _, _], _ => rfl) fun cdv A outer s H vs Q E hr h => ?_
  · obtain ⟨_, _, _, rfl, _⟩ := h
    rfl
  · obtain ⟨ds, r, ⟨row, a, b, rfl, hab, hb, rfl⟩, ha, hQ⟩ := h
    obtain ⟨x, y, z, rfl, hx, hy, hz⟩ := dpa3 ha
    cases hy
    cases hz
    have hx' : Dp K H x (.tuple (row.map .int)) := hx
    refine bl_retD (d := .int ((((row.drop a).take (b + 1 - a)).sum + b) - a)) (d_sub (d_add ?_ ?_) ?_) rfl hQ
    · refine d_sumT rfl (by rfl) B.sum (EvD.is (d := .tuple (D1.cutD (row.map PyData.int) (some (a : Int)) (some ((b : Int) + 1)))) ?_ ?_)
      · walk_at "ev"
      · rw [show ((b : Int) + 1) = ((b + 1 : Nat) : Int) by omega, cut_row row a (b + 1) (by omega) (by omega)]
    · walk_at "ev"
    · walk_at "ev"
def R_longest : List PyData → PyData → Prop := fun ds r => ∃ (row : List Int), ds = [rowD row] ∧ 0 < row.length ∧ r = .int (MM.maxI row)
theorem longest_ok (D : Df K mg "longest" s_longest) (B : Bi mg) : Gf P w K mg base 1 "longest" P_longest (Spf K R_longest) := by
  refine D.gf 0 sc_longest (Spf_len (n := 1) fun ds r h => ?_) (fun _ _ _ _ _ _ us hl => match us, hl with | [_], _ => rfl) fun cdv A outer s H vs Q E hr h => ?_
  · obtain ⟨_, rfl, _⟩ := h
    rfl
  · obtain ⟨ds, r, ⟨row, rfl, h0, rfl⟩, ha, hQ⟩ := h
    obtain ⟨x, rfl, hx⟩ := dpa1 ha
    have hx' : Dp K H x (.tuple (row.map .int)) := hx
    exact bl_retD (d_maxT rfl (by rfl) B.max (by walk_at "ev") h0) rfl hQ
end
end TX
end
section
namespace TX
open PySem PySem.Spec PyProof.Rows L2 Evl W1 D1 MM
section
variable {P : Program} {w : World} {K : PySem.W.Frag} {mg : Str → Option Value} {base : Heap}
theorem po {CX : CXT} {N : List Str} {qual : Str} {scope : Scope} {f : Addr} {cd : Value} {A : Around} {outer : List Env} {s : Shared} {H : Hp} {E : XK} :
    PassesOwn (model P w) (cxOf CX P w K mg base N qual scope f cd A outer s H E).A (cxOf CX P w K mg base N qual scope f cd A outer s H E).env (cxOf CX P w K mg base N qual scope f cd A outer s H E).xe := passes_of (K := fun e s'' => CX outer H s E e s'') rfl
def RsA (K : PySem.W.Frag) (H : Hp) (E : XK) (x f : Str) : Prop := ∀ dv, Rs K H E x f dv
theorem RsA.ex {H H1 : Hp} {E : XK} {x f : Str} (r : RsA K H E x f) (e : Ex H H1) : RsA K H1 E x f := fun dv => (r dv).ex e
def S_check_fits (K : PySem.W.Frag) : Sp := fun vs H Q E => ∃ (r : List Int) (w : Int), DpAll K H vs [rowD r, .int w] ∧ ((∀ x ∈ r, x ≤ w) → ∀ H', Ex H H' → Q .non H') ∧ (¬ (∀ x ∈ r, x ≤ w) → RsA K H E "TooNarrow" "place")
theorem check_fits_ok (D : Df K mg "check_fits" s_check_fits) (B : Bi mg) (C : Er K mg "TooNarrow" "place") : Gf P w K mg base 2 "check_fits" P_check_fits (S_check_fits K) := by
  refine D.gf 1 sc_check_fits (fun vs H Q E h => ?_) (fun _ _ _ _ _ _ us hl => match us, hl with | [_, _], _ => rfl) fun cdv A outer s H vs Q E hr h => ?_
  · obtain ⟨_, _, ha, _⟩ := h
    exact dpa_length ha
  · obtain ⟨r, wd, ha, h1, h2⟩ := h
    obtain ⟨x, y, rfl, hx, hy⟩ := dpa2 ha
    cases hy
    have hx' : Dp K H x (.tuple (r.map .int)) := hx
    refine bl_enum (i := 2) (j := 3) po rfl sc_check_fits.nd rfl rfl rfl rfl (by rfl) B.enumerate (ds := r.map .int) (by walk_at "ev") (noLs_ints r)
      (fun H1 n σ' H' => Ex H1 H' ∧ (∃ a b, σ' = [some x, some (.int wd), a, b]) ∧ ∀ x ∈ r.take n, x ≤ wd) (fun H1 e1 => ⟨Ex.refl _, ⟨_, _, rfl⟩, by simp⟩) (fun H1 n σ' H' _ p => Tu.of p.1) (fun H1 n d v σ' H' H2 e1 hd hv p e2 => ?_) (fun H1 σ' H' e1 p => ?_)
    · obtain ⟨p1, ⟨a, b, rfl⟩, p3⟩ := p
      obtain ⟨i, hi, rfl⟩ : ∃ i, r[n]? = some i ∧ .int i = d := by
        rw [List.getElem?_map] at hd
        cases e : r[n]? with
        | none => rw [e] at hd; cases hd
        | some i => rw [e] at hd; exact ⟨i, rfl, Option.some.inj hd⟩
      cases hv
      refine bl_when (k := decide (wd < i)) (by walk_at "eb") (fun hk H3 e3 => ?_) fun hk H3 e3 => bl_nil ⟨p1.trans (e2.trans e3), ⟨_, _, rfl⟩, fun z hz => ?_⟩
      · have hk' : wd < i := of_decide_eq_true hk
        have hn : ¬ (∀ x ∈ r, x ≤ wd) := fun z => by
          have := z i (List.mem_of_getElem? hi)
          omega
        exact bl_raise1 (E := E) (dv := .int (n : Int)) (L2N.takes_of rfl rfl rfl rfl) rfl C hr (by rfl) (by walk_at "ev") ((h2 hn).ex (e1.trans (p1.trans (e2.trans e3))) _)
      · have hk' : ¬ wd < i := of_decide_eq_false hk
        rw [List.take_add_one, hi] at hz
        rcases List.mem_append.mp hz with z1 | z1
        · exact p3 z z1
        · have : z = i := by simpa using z1
          omega
    · refine bl_nil (h1 (fun z hz => p.2.2 z ?_) H' (e1.trans p.1))
      rw [List.length_map, List.take_length]
      exact hz
def R_next_start : List PyData → PyData → Prop := fun ds r => ∃ (row : List Int) (w : Int) (s : Nat), ds = [rowD row, .int w, .int s] ∧ s < row.length ∧ r = .int (nextStart row w s : Nat)
theorem next_start_ok (D : Df K mg "next_start" s_next_start) (B : Bi mg) (G : Gf P w K mg base 1 "extent_of" P_extent_of (Spf K R_extent_of)) : Gf P w K mg base 2 "next_start" P_next_start (Spf K R_next_start) := by
  refine D.gf 1 sc_next_start (Spf_len (n := 3) fun ds r h => ?_) (fun _ _ _ _ _ _ us hl => match us, hl with | [_, _, _], _ => rfl) fun cdv A outer s H vs Q E hr h => ?_
  · obtain ⟨_, _, _, rfl, _⟩ := h
    rfl
  · obtain ⟨ds, r, ⟨row, wd, st, rfl, hst, rfl⟩, ha, hQ⟩ := h
    obtain ⟨x, y, z, rfl, hx, hy, hz⟩ := dpa3 ha
    cases hy
    cases hz
    have hx' : Dp K H x (.tuple (row.map .int)) := hx
    refine bl_set 3 sc_next_start.nd rfl (.inl rfl) ((show EvD _ _ _ H (.int ((st : Int) + 1)) by walk_at "ev").go fun v H1 e1 hv => ?_)
    cases hv
    refine bl_while po (fun m σ' H' => ∃ k : Nat, σ' = [some x, some (.int wd), some (.int st), some (.int k)] ∧ Ex H H' ∧ st < k ∧ k ≤ row.length ∧ nf row wd st k = nextStart row wd st ∧ m = row.length - k) (row.length - (st + 1)) ⟨st + 1, rfl, e1, by omega, by omega, rfl, rfl⟩ fun m σ' H' ⟨k, hσ, e2, hk1, hk2, hn, hm⟩ => ?_
    subst hσ
    refine ⟨decide ((k : Int) < ((row.map PyData.int).length : Nat)) && decide (ext row st k ≤ wd), EvW.tob (w_and (by walk_at "eb") fun h => w_and1 (b_le (d_call G hr (by rfl) (ds := [rowD row, .int st, .int k]) ?_ ⟨row, st, k, rfl, by omega, ?_, rfl⟩) (by walk_at "ev"))), fun h H3 e3 => ?_, fun h H3 e3 => ?_⟩
    · show EvA _ _ _ _ [.tuple (row.map .int), .int st, .int k]
      walk_at "ea"
    · have := of_decide_eq_true h
      rw [List.length_map] at this
      omega
    · obtain ⟨h1, h2⟩ := (Bool.and_eq_true _ _).mp h
      have h1 := of_decide_eq_true h1
      have h2 := of_decide_eq_true h2
      rw [List.length_map] at h1
      refine bl_set 3 sc_next_start.nd rfl (.inl rfl) ((show EvD _ _ _ H3 (.int ((k : Int) + 1)) by walk_at "ev").go fun v H4 e4 hv => ?_)
      cases hv
      refine bl_nil ⟨row.length - (k + 1), by omega, k + 1, rfl, e2.trans (e3.trans e4), by omega, by omega, ?_, rfl⟩
      rw [← hn]
      conv => rhs; unfold nf
      rw [if_pos ⟨by omega, h2⟩]
    · have hend : nextStart row wd st = k := by
        rw [← hn]
        unfold nf
        rw [if_neg]
        rintro ⟨z1, z2⟩
        rw [List.length_map, decide_eq_true (show (k : Int) < (row.length : Nat) by omega), decide_eq_true z2] at h
        cases h
      rw [hend] at hQ
      exact bl_retD (d := .int (k : Nat)) (by walk_at "ev") rfl fun v H4 e4 hv => hQ v H4 (e2.trans (e3.trans e4)) hv
end
end TX
end
section
namespace TX
open PySem PySem.Spec PyProof.Rows L2 Evl W1 D1 MM
section
variable {P : Program} {w : World} {K : PySem.W.Frag} {mg : Str → Option Value} {base : Heap}
theorem natsV (l : List Nat) : (l.map Int.ofNat).map V.int = l.map fun (n : Nat) => V.int (n : Int) := by
  rw [List.map_map]
  rfl
def R_starts_of : List PyData → PyData → Prop := fun ds r => ∃ (row : List Int) (w : Int), ds = [rowD row, .int w] ∧ 1 ≤ row.length ∧ row.length ≤ 1000 ∧ r = natsD (starts row w)
theorem so_len (row : List Int) (w : Int) (k : Nat) : (so row w k).length ≤ row.length - k := by
  unfold so
  split
  · rename_i q
    have h1 := lt_next row w k
    have h2 := so_len row w (nextStart row w k)
    show _ + 1 ≤ _
    omega
  · exact Nat.zero_le _
termination_by row.length - k
decreasing_by
  have := lt_next row w k
  omega
theorem starts_len (row : List Int) (w : Int) (h : 1 ≤ row.length) : (starts row w).length ≤ row.length := by
  have h1 := so_len row w (nextStart row w 0)
  have h2 := lt_next row w 0
  show _ + 1 ≤ _
  omega
theorem starts_of_ok (D : Df K mg "starts_of" s_starts_of) (B : Bi mg) (G : Gf P w K mg base 2 "next_start" P_next_start (Spf K R_next_start)) : Gf P w K mg base 3 "starts_of" P_starts_of (Spf K R_starts_of) := by
  refine D.gf 2 sc_starts_of (Spf_len (n := 2) fun ds r h => ?_) (fun _ _ _ _ _ _ us hl => match us, hl with | [_, _], _ => rfl) fun cdv A outer s H vs Q E hr h => ?_
  · obtain ⟨_, _, rfl, _⟩ := h
    rfl
  · obtain ⟨ds, r, ⟨row, wd, rfl, hrow, hbig, rfl⟩, ha, hQ⟩ := h
    obtain ⟨x, y, rfl, hx, hy⟩ := dpa2 ha
    cases hy
    have hx' : Dp K H x (.tuple (row.map .int)) := hx
    have hE : ∀ H1, Ex H H1 → EvA (cX P w K mg base N_starts_of "starts_of" s_starts_of (He.ga K "starts_of") cdv A outer s H E) [] [] H1 [] := fun _ _ => a_nil
    refine bl_set 2 sc_starts_of.nd rfl (.inl rfl) ((n_lst (ds := [.int 0]) (by walk_at "ea") (by decide)).go fun v H1 e1 ⟨l, xs, ev, hl0, hl1, hxs⟩ => ?_)
    subst ev
    obtain rfl : xs = [0].map V.int := dpa_ints (ns := [0]) hxs
    refine bl_set 3 sc_starts_of.nd rfl (.inl rfl) ((d_call G hr (by rfl) (ds := [rowD row, .int wd, .int (0 : Nat)]) (by show EvA _ _ _ _ [.tuple (row.map .int), .int wd, .int 0]; walk_at "ea") ⟨row, wd, 0, rfl, by omega, rfl⟩).go fun v H2 e2 hv => ?_)
    cases hv
    refine bl_while po (fun m σ' H' => ∃ (k : Nat) (acc : List Nat), σ' = [some x, some (.int wd), some (.ref l), some (.int k)] ∧ Ex H H' ∧ H' l = some (.lst ((acc.map Int.ofNat).map V.int)) ∧ acc ++ so row wd k = starts row wd ∧ m = row.length - k) (row.length - nextStart row wd 0)
      ⟨nextStart row wd 0, [0], rfl, e1.trans e2, e2 _ _ hl1, rfl, rfl⟩ fun m σ' H' ⟨k, acc, hσ, eH, hl, hacc, hm⟩ => ?_
    subst hσ
    have hx2 : Dp K H' x (.tuple (row.map .int)) := dp_ex eH hx'
    refine ⟨decide ((k : Int) < ((row.map PyData.int).length : Nat)), by walk_at "eb", fun h H3 e3 => ?_, fun h H3 e3 => ?_⟩
    · have hk : k < row.length := by
        have := of_decide_eq_true h
        rw [List.length_map] at this
        omega
      have hso : so row wd k = k :: so row wd (nextStart row wd k) := by
        conv => lhs; unfold so
        rw [if_pos hk]
      have hal : acc.length ≤ 1000 := by
        have h1 := congrArg List.length hacc
        have h2 := starts_len row wd hrow
        rw [List.length_append] at h1
        omega
      refine bl_app (i := 2) rfl (.inl rfl) rfl (e3 _ _ hl) (Φ := fun v _ => v = .int k) (v_var 3 (by rfl) (.inl rfl) rfl) (by rw [List.length_map, List.length_map]; omega) fun v H4 e4 hv => ?_
      subst hv
      have hH4 : H4 l = some (.lst ((acc.map Int.ofNat).map V.int)) := e4 _ _ (e3 _ _ hl)
      have e5 : Ex H (upd H4 l (.lst ((acc.map Int.ofNat).map V.int ++ [.int k]))) := Ex.mut (eH.trans (e3.trans e4)) hl0
      have hx3 := dp_ex e5 hx'
      refine bl_set 3 sc_starts_of.nd rfl (.inl rfl) ((d_call G hr (by rfl) (ds := [rowD row, .int wd, .int k]) (by show EvA _ _ _ _ [.tuple (row.map .int), .int wd, .int k]; walk_at "ea") ⟨row, wd, k, rfl, hk, rfl⟩).go fun v H5 e6 hv => ?_)
      cases hv
      refine bl_nil ⟨row.length - nextStart row wd k, by have := lt_next row wd k; omega, nextStart row wd k, acc ++ [k], rfl, e5.trans e6, ?_, ?_, rfl⟩
      · refine e6 _ _ (upd_same.trans ?_)
        rw [List.map_append, List.map_append]
        rfl
      · rw [List.append_assoc, ← hacc, hso]
        rfl
    · have hk : ¬ k < row.length := by
        have := of_decide_eq_false h
        rw [List.length_map] at this
        omega
      have hso : so row wd k = [] := by
        unfold so
        rw [if_neg hk]
      rw [hso, List.append_nil] at hacc
      subst hacc
      have hd : Dp K H3 (.ref l) (.list (((starts row wd).map Int.ofNat).map .int)) := .lst (sq_of (e3 _ _ hl)) (ints_dpa _)
      exact bl_retD (d_tupleL (by rfl) B.tuple (by walk_at "ev")) rfl fun v H4 e4 hv => hQ v H4 (eH.trans (e3.trans e4)) hv
end
end TX
end
section
namespace TX
open PySem PySem.Spec PyProof.Rows L2 Evl W1 D1 MM
section
variable {P : Program} {w : World} {K : PySem.W.Frag} {mg : Str → Option Value} {base : Heap}
theorem r64 {k : Nat} {A : Around} (hr : Room k A) : A.units + 64 < cLine := by have := hr.un; omega
section
variable {X : Cx} {a e : Expr} {es : List Expr} {σ : L2.St} {H : Hp} {pos p : Pos} {Q : VK}
theorem w_lenT (hg : Gl X "len") (B : Bi X.mg) (h : WpX X a σ H fun v H1 => ∃ p xs, v = .ref p ∧ SqT X.K H1 p xs ∧ Q (.int xs.length) H1) (he : starEach [a] X.env = (false, eval a X.env) :: starEach [] X.env := by rfl) : WpX X (.Call (.Name "len" p) [a] [] pos) σ H Q :=
  .of (pe_callB (x := "len") (id := "len") call_len_seq hg B.len boot_len (pa_cons pp pa_nil he) (he := he) (hpl := rfl)) (h.imp fun v H1 ⟨p, xs, e, hx, q⟩ => ⟨p, xs, by rw [e], .inr hx, q⟩)
/-- a call whose exceptions go on out -/
theorem w_callE {k : Nat} {x : Str} {ps : List Str} {sp : Sp} {E : XK} {ds : List PyData} (tk : L2N.Takes X fun cls d _ H => E cls d H) (G : Gf X.prog X.w X.K X.mg X.base k x ps sp) (hr : Room k X.A) (hg : Gl X x) (ha : EvA X (e :: es) σ H ds) (h : ∀ vs H1, Ex H H1 → DpAll X.K H1 vs ds → sp vs H1 Q E) (hdb : (x == ("__debug__" : Str)) = false := by decide)
    (he : starEach (e :: es) X.env = (false, eval e X.env) :: starEach es X.env := by rfl) (hpl : (backTo pos (starEach es X.env)).any (·.1) = false := by rfl) : WpX X (.Call (.Name x p) (e :: es) [] pos) σ H Q :=
  w_call G hr hg (L2N.passes_call tk (fun _ _ _ _ z => z)) (ha.run H (Ex.refl H) _ fun vs H1 e1 hvs => h vs H1 e1 hvs) hdb he hpl
end
def S_starts_at (K : PySem.W.Frag) : Sp := fun vs H Q E => ∃ (r : List Int) (w : Int), DpAll K H vs [rowD r, .int w] ∧ 1 ≤ r.length ∧ r.length ≤ 1000 ∧ ((∀ x ∈ r, x ≤ w) → ∀ v H', Ex H H' → Dp K H' v (natsD (starts r w)) → Q v H') ∧ (¬ (∀ x ∈ r, x ≤ w) → RsA K H E "TooNarrow" "place")
theorem starts_at_ok (D : Df K mg "starts_at" s_starts_at) (G : Gf P w K mg base 2 "check_fits" P_check_fits (S_check_fits K)) (G2 : Gf P w K mg base 3 "starts_of" P_starts_of (Spf K R_starts_of)) : Gf P w K mg base 4 "starts_at" P_starts_at (S_starts_at K) := by
  refine D.gf 3 sc_starts_at (fun vs H Q E h => ?_) (fun _ _ _ _ _ _ us hl => match us, hl with | [_, _], _ => rfl) fun cdv A outer s H vs Q E hr h => ?_
  · obtain ⟨_, _, ha, _⟩ := h
    exact dpa_length ha
  · obtain ⟨r, wd, ha, hp, hz, h1, h2⟩ := h
    obtain ⟨x, y, rfl, hx, hy⟩ := dpa2 ha
    cases hy
    have hx' : Dp K H x (.tuple (r.map .int)) := hx
    refine bl_expr (w_callE (E := E) (L2N.takes_of rfl rfl rfl rfl) G (hr.mono (by decide)) (by rfl) (ds := [rowD r, .int wd]) (by show EvA _ _ _ _ [.tuple (r.map .int), .int wd]; walk_at "ea") fun vs H1 e1 hvs => ⟨r, wd, hvs, fun ht H2 e2 => ?_, fun hn => (h2 hn).ex e1⟩)
    have hx2 := dp_ex (e1.trans e2) hx'
    exact bl_ret ((d_call G2 hr (by rfl) (ds := [rowD r, .int wd]) (by show EvA _ _ _ _ [.tuple (r.map .int), .int wd]; walk_at "ea") ⟨r, wd, rfl, hp, hz, rfl⟩).go fun v H3 e3 hv => h1 ht v H3 (e1.trans (e2.trans e3)) hv)
def S_count_lines (K : PySem.W.Frag) : Sp := fun vs H Q E => ∃ (r : List Int) (w : Int), DpAll K H vs [rowD r, .int w] ∧ 1 ≤ r.length ∧ r.length ≤ 1000 ∧ ((∀ x ∈ r, x ≤ w) → ∀ H', Ex H H' → Q (.int ((starts r w).length : Nat)) H') ∧ (¬ (∀ x ∈ r, x ≤ w) → RsA K H E "TooNarrow" "place")
theorem count_lines_ok (D : Df K mg "count_lines" s_count_lines) (B : Bi mg) (G : Gf P w K mg base 4 "starts_at" P_starts_at (S_starts_at K)) : Gf P w K mg base 5 "count_lines" P_count_lines (S_count_lines K) := by
  refine D.gf 4 sc_count_lines (fun vs H Q E h => ?_) (fun _ _ _ _ _ _ us hl => match us, hl with | [_, _], _ => rfl) fun cdv A outer s H vs Q E hr h => ?_
  · obtain ⟨_, _, ha, _⟩ := h
    exact dpa_length ha
  · obtain ⟨r, wd, ha, hp, hz, h1, h2⟩ := h
    obtain ⟨x, y, rfl, hx, hy⟩ := dpa2 ha
    cases hy
    have hx' : Dp K H x (.tuple (r.map .int)) := hx
    refine bl_ret (w_lenT (by rfl) B (w_callE (E := E) (L2N.takes_of rfl rfl rfl rfl) G hr (by rfl) (ds := [rowD r, .int wd]) (by show EvA _ _ _ _ [.tuple (r.map .int), .int wd]; walk_at "ea") fun vs H1 e1 hvs => ⟨r, wd, hvs, hp, hz, fun ht v H2 e2 hv => ?_, fun hn => (h2 hn).ex e1⟩))
    obtain ⟨p, xs, rfl, hx3, hxs⟩ := dp_tup hv
    have hl : xs.length = (starts r wd).length := by rw [dpa_length hxs, List.length_map, List.length_map]
    refine ⟨p, xs, rfl, hx3, ?_⟩
    rw [hl]
    exact h1 ht H2 (e1.trans e2)
theorem cut_tail (l : List PyData) : D1.cutD l (some 1) none = l.tail := by
  have h : HT.sIx l.length 0 (some 1) = min 1 l.length := HT.sIx_nat l.length 0 1
  unfold D1.cutD
  rw [h, HT.sIx_none]
  cases l with
  | nil => rfl
  | cons a l =>
    have e : min 1 (a :: l).length = 1 := by simp only [List.length_cons]; omega
    rw [e]
    show l.take _ = l
    exact List.take_of_length_le (by simp only [List.length_cons]; omega)
theorem cut_row2 (row : List Int) (a b : Nat) (hb : b ≤ row.length) (ha : a ≤ row.length) : D1.cutD (row.map PyData.int) (some (a : Int)) (some (b : Int)) = ((row.drop a).take (b - a)).map PyData.int := by
  unfold D1.cutD
  rw [HT.sIx_nat, HT.sIx_nat, List.length_map, Nat.min_eq_left hb, Nat.min_eq_left ha, ← List.map_drop, ← List.map_take]
/-- the slice of two data -/
def slD (row : List Int) (d f : PyData) : PyData := match d, f with
  | .int a, .int b => rowD ((row.drop a.toNat).take (b.toNat - a.toNat))
  | _, _ => .none
theorem nats_zip (ss es : List Nat) {d f : PyData} (h : (d, f) ∈ ((ss.map Int.ofNat).map PyData.int).zip ((es.map Int.ofNat).map PyData.int)) : ∃ a b : Nat, d = .int a ∧ f = .int b ∧ (a, b) ∈ ss.zip es := by
  rw [List.map_map, List.map_map, List.zip_map] at h
  obtain ⟨⟨a, b⟩, h1, h2⟩ := List.mem_map.mp h
  cases h2
  exact ⟨a, b, rfl, rfl, h1⟩
theorem zip_nats {β : Type} (g : PyData → PyData → β) (ss es : List Nat) : (((ss.map Int.ofNat).map PyData.int).zip ((es.map Int.ofNat).map PyData.int)).map (fun p => g p.1 p.2) = (ss.zip es).map fun p => g (.int (p.1 : Int)) (.int (p.2 : Int)) := by
  rw [List.map_map, List.map_map, List.zip_map, List.map_map]
  rfl
def R_lines_of : List PyData → PyData → Prop := fun ds r => ∃ (row : List Int) (ss : List Nat), ds = [rowD row, natsD ss] ∧ 1 ≤ ss.length ∧ ss.length ≤ 1000 ∧ (∀ s ∈ ss, s ≤ row.length) ∧ r = .tuple ((rowLines row ss).map rowD)
theorem lines_of_ok (D : Df K mg "lines_of" s_lines_of) (B : Bi mg) : Gf P w K mg base 1 "lines_of" P_lines_of (Spf K R_lines_of) := by
  refine D.gf 0 sc_lines_of (Spf_len (n := 2) fun ds r h => ?_) (fun _ _ _ _ _ _ us hl => match us, hl with | [_, _], _ => rfl) fun cdv A outer s H vs Q E hr h => ?_
  · obtain ⟨_, _, rfl, _⟩ := h
    rfl
  · obtain ⟨ds, r, ⟨row, ss, rfl, h1, h2, h3, rfl⟩, ha, hQ⟩ := h
    obtain ⟨x, y, rfl, hx, hy⟩ := dpa2 ha
    have hx' : Dp K H x (.tuple (row.map .int)) := hx
    have hy' : Dp K H y (.tuple ((ss.map Int.ofNat).map .int)) := hy
    have hends : D1.cutD ((ss.map Int.ofNat).map PyData.int) (some 1) none ++ [.int (((row.map PyData.int).length : Nat) : Int)] = ((ss.tail ++ [row.length]).map Int.ofNat).map PyData.int := by
      rw [cut_tail, List.map_append, List.map_append, List.map_tail, List.map_tail, List.length_map]
      rfl
    refine bl_set 2 sc_lines_of.nd rfl (.inl rfl) ((n_lst (a_starT (ts := D1.cutD ((ss.map Int.ofNat).map PyData.int) (some 1) none) (by walk_at "ev") (ds := [.int (((row.map PyData.int).length : Nat) : Int)]) (by walk_at "ea")) (by rw [hends]; simp; omega)).go fun v H1 e1 hv => ?_)
    obtain ⟨l, xs, rfl, hl0, hl1, hxs⟩ := hv
    rw [hends] at hxs
    have hends' : Dp K H1 (.ref l) (.list (((ss.tail ++ [row.length]).map Int.ofNat).map PyData.int)) := .lst (sq_of hl1) hxs
    have hx2 := dp_ex e1 hx'
    have hy2 := dp_ex e1 hy'
    have hlen : ((ss.map Int.ofNat).map PyData.int).length = (((ss.tail ++ [row.length]).map Int.ofNat).map PyData.int).length := by simp; omega
    have hle : ∀ a b : Nat, (a, b) ∈ ss.zip (ss.tail ++ [row.length]) → a ≤ row.length ∧ b ≤ row.length := fun a b hm => by
      obtain ⟨m1, m2⟩ := List.of_mem_zip hm
      refine ⟨h3 a m1, ?_⟩
      rcases List.mem_append.mp m2 with z | z
      · exact h3 b (List.mem_of_mem_tail z)
      · have : b = row.length := by simpa using z
        omega
    refine bl_retD (d_tupleL (by rfl) B.tuple (EvN.toD (n_lcZM (own := [("start", 3), ("end", 4)]) (i := 3) (j := 4) (slD row) rfl sc_lines_of.nd (by rfl) B.zip (by walk_at "ev") (by walk_at "ev") hlen (blkOk_by (N := N_lines_of) (sc := defScope s_lines_of) (by decide +kernel)) rfl rfl rfl rfl (fun _ _ => rfl) (by simp; omega) (fun d f hm => ?_) ?_))) ?_ fun v H2 e2 hv => hQ v H2 (e1.trans e2) hv
    · obtain ⟨a, b, rfl, rfl, _⟩ := nats_zip _ _ hm
      exact noL_row _
    · intro s0 H0 C0 cl0 fp0 d f u v H2 e2 hm hu hv
      obtain ⟨a, b, rfl, rfl, hm2⟩ := nats_zip _ _ hm
      obtain ⟨ha1, hb1⟩ := hle a b hm2
      cases hu
      cases hv
      have hx3 := dp_ex e2 hx2
      refine EvD.is (d := .tuple (D1.cutD (row.map PyData.int) (some (a : Int)) (some (b : Int)))) (by walk_at "ev") ?_
      rw [cut_row2 row a b hb1 ha1]
      rfl
    · congr 1
      rw [zip_nats, rowLines, cuts, List.map_map]
      rfl
end
end TX
end
section
namespace TX
open PySem PySem.Spec PyProof.Rows L2 Evl W1 D1 MM
/-! facts of the plain side -/
theorem eqv_nil (l : List PyData) : PyData.eqv (.list l) (.list []) = l.isEmpty := by cases l <;> simp [PyData.eqv, PyData.eqvAll]
theorem eqv_int (a b : Int) : PyData.eqv (.int a) (.int b) = (a == b) := by simp [PyData.eqv]
theorem lay_ints : ∀ ns : List Int, PyData.canLayAll0 (ns.map .int) = true ∧ PyData.depthAll (ns.map .int) = 0
  | [] => by simp [PyData.canLayAll0, PyData.depthAll]
  | n :: ns => by
    obtain ⟨h1, h2⟩ := lay_ints ns
    simp [PyData.canLayAll0, PyData.depthAll, PyData.canLay0, PyData.depth, h1, h2]
theorem shaped_int (i : Int) : SeqAt.shaped (.int i) = true := by
  show ((PyData.int i).canLay0 && decide ((PyData.int i).depth ≤ 64)) = true
  simp [PyData.canLay0, PyData.depth]
theorem shaped_ints (ns : List Int) : SeqAt.shaped (.list (ns.map .int)) = true := by
  obtain ⟨h1, h2⟩ := lay_ints ns
  show (PyData.canLay0 (.list (ns.map .int)) && decide (PyData.depth (.list (ns.map .int)) ≤ 64)) = true
  simp [PyData.canLay0, PyData.depth, h1, h2]
theorem shaped_row (ns : List Int) : SeqAt.shaped (.tuple (ns.map .int)) = true := by
  obtain ⟨h1, h2⟩ := lay_ints ns
  show (PyData.canLay0 (.tuple (ns.map .int)) && decide (PyData.depth (.tuple (ns.map .int)) ≤ 64)) = true
  simp [PyData.canLay0, PyData.depth, h1, h2]
theorem shaped_nil : SeqAt.shaped (.list []) = true := shaped_ints []
theorem min_mem : ∀ (l : List Int) (a : Int), l.foldl min a = a ∨ l.foldl min a ∈ l
  | [], a => .inl rfl
  | b :: l, a => by
    show l.foldl min (min a b) = a ∨ l.foldl min (min a b) ∈ b :: l
    rcases min_mem l (min a b) with h | h
    · rw [h]
      by_cases z : a ≤ b
      · exact .inl (by omega)
      · exact .inr (by rw [show min a b = b by omega]; exact List.mem_cons_self ..)
    · exact .inr (List.mem_cons_of_mem _ h)
theorem minI_mem {l : List Int} (h : l ≠ []) : MM.minI l ∈ l := by
  cases l with
  | nil => exact absurd rfl h
  | cons a l =>
    rcases min_mem (a :: l) a with z | z
    · show (a :: l).foldl min a ∈ _
      rw [z]
      exact List.mem_cons_self ..
    · exact z
theorem sum_le : ∀ (l : List Int), (∀ x ∈ l, x ≤ 60) → l.sum ≤ 60 * l.length
  | [], _ => by simp
  | a :: l, h => by
    have h1 := h a (List.mem_cons_self ..)
    have h2 := sum_le l fun x hx => h x (List.mem_cons_of_mem _ hx)
    rw [List.sum_cons, List.length_cons]
    omega
theorem ext_le {r : List Int} (hr : RowOk r) (s f : Nat) (hf : f < r.length) : ext r s f ≤ 3000 := by
  have h1 := sum_le ((r.drop s).take (f + 1 - s)) fun x hx => (hr.all x (List.mem_of_mem_drop (List.mem_of_mem_take hx))).2
  have h2 : ((r.drop s).take (f + 1 - s)).length ≤ r.length := by rw [List.length_take, List.length_drop]; omega
  have h3 := hr.few
  unfold ext
  omega
theorem so_pairs (r : List Int) (w : Int) (k : Nat) (hk : k < r.length) : ∀ p ∈ (k :: so r w (nextStart r w k)).zip (so r w (nextStart r w k)), p.2 = nextStart r w p.1 ∧ p.2 < r.length ∧ p.1 < p.2 := by
  intro p hp
  have e : so r w (nextStart r w k) = if nextStart r w k < r.length then nextStart r w k :: so r w (nextStart r w (nextStart r w k)) else [] := by
    conv => lhs; unfold so
  by_cases h : nextStart r w k < r.length
  · rw [if_pos h] at e
    rw [e, List.zip_cons_cons] at hp
    rcases List.mem_cons.mp hp with z | z
    · subst z
      exact ⟨rfl, h, lt_next r w k⟩
    · exact so_pairs r w (nextStart r w k) h p z
  · rw [if_neg h] at e
    rw [e] at hp
    simp at hp
termination_by r.length - k
decreasing_by
  have := lt_next r w k
  omega
theorem starts_pairs (r : List Int) (w : Int) (hk : 0 < r.length) : ∀ p ∈ (starts r w).zip (starts r w).tail, p.2 = nextStart r w p.1 ∧ p.2 < r.length ∧ p.1 < p.2 := so_pairs r w 0 hk
theorem widths_gt (r : List Int) (w : Int) (hk : 0 < r.length) : ∀ x ∈ widths r (starts r w), w < x := fun x hx => by
  obtain ⟨p, hp, rfl⟩ := List.mem_map.mp hx
  obtain ⟨h1, h2, _⟩ := starts_pairs r w hk p hp
  rw [h1] at h2 ⊢
  exact nf_end r w p.1 (p.1 + 1) h2
theorem nextWidth_gt {r : List Int} (hr : RowOk r) {w x : Int} (h : nextWidth r (starts r w) = some x) : w < x ∧ x ≤ 3000 := by
  unfold nextWidth at h
  split at h
  · cases h
  · rename_i hne
    cases h
    have hm := minI_mem hne
    refine ⟨widths_gt r w (by have := hr.pos; omega) _ hm, ?_⟩
    obtain ⟨p, hp, e⟩ := List.mem_map.mp hm
    obtain ⟨_, h2, _⟩ := starts_pairs r w (by have := hr.pos; omega) p hp
    rw [← e]
    exact ext_le hr p.1 p.2 h2
theorem book_eq {r : List Int} (hr : RowOk r) (w : Int) : book r w = (w, starts r w) :: match nextWidth r (starts r w) with
    | none => []
    | some w' => book r w' := by
  conv => lhs; unfold book
  cases e : nextWidth r (starts r w) with
  | none => rfl
  | some x =>
    have h := nextWidth_gt hr e
    show _ :: (if w < x ∧ x ≤ 3000 then book r x else []) = _
    rw [if_pos h]
theorem book_len {r : List Int} (w : Int) : (book r w).length ≤ (3000 - w).toNat + 1 := by
  unfold book
  cases e : nextWidth r (starts r w) with
  | none => simp
  | some x =>
    show (_ :: (if w < x ∧ x ≤ 3000 then book r x else [])).length ≤ _
    split
    · rename_i h
      have := book_len (r := r) x
      rw [List.length_cons]
      omega
    · simp
termination_by (3000 - w).toNat
decreasing_by omega
theorem max_bound : ∀ (l : List Int) (a : Int), (∀ x ∈ l, 1 ≤ x ∧ x ≤ 60) → 1 ≤ a → a ≤ 60 → 1 ≤ l.foldl max a ∧ l.foldl max a ≤ 60
  | [], a, _, h1, h2 => ⟨h1, h2⟩
  | b :: l, a, h, h1, h2 => by
    have hb := h b (List.mem_cons_self ..)
    exact max_bound l (max a b) (fun x hx => h x (List.mem_cons_of_mem _ hx)) (by omega) (by omega)
theorem maxI_row {r : List Int} (hr : RowOk r) : 1 ≤ MM.maxI r ∧ MM.maxI r ≤ 60 := by
  have h := hr.pos
  cases r with
  | nil => simp at h
  | cons a l =>
    have ha := hr.all a (List.mem_cons_self ..)
    exact max_bound (a :: l) a hr.all ha.1 ha.2
section
variable {P : Program} {w : World} {K : PySem.W.Frag} {mg : Str → Option Value} {base : Heap}
theorem d_neg {X : Cx} {a : Expr} {σ : L2.St} {H : Hp} {pos : Pos} {i : Int} (h : EvD X a σ H (.int i)) : EvD X (.UnaryOp .USub a pos) σ H (.int (-i)) :=
  .of (pe_un un_neg pp) fun H1 e1 Q q => h.run H1 e1 _ fun v H2 e2 hv => ⟨i, dp_int hv, q _ H2 e2 (.int _)⟩
def extD (row : List Int) (d f : PyData) : PyData := match d, f with
  | .int a, .int b => .int (ext row a.toNat b.toNat)
  | _, _ => .none
def optD : Option Int → PyData
  | none => .none
  | some i => .int i
def R_next_width : List PyData → PyData → Prop := fun ds r => ∃ (row : List Int) (ss : List Nat), ds = [rowD row, natsD ss] ∧ ss.length ≤ 1000 ∧ (∀ p ∈ ss.zip ss.tail, p.2 < row.length ∧ p.1 < p.2) ∧ r = optD (nextWidth row ss)
theorem next_width_ok (D : Df K mg "next_width" s_next_width) (B : Bi mg) (G : Gf P w K mg base 1 "extent_of" P_extent_of (Spf K R_extent_of)) : Gf P w K mg base 2 "next_width" P_next_width (Spf K R_next_width) := by
  refine D.gf 1 sc_next_width (Spf_len (n := 2) fun ds r h => ?_) (fun _ _ _ _ _ _ us hl => match us, hl with | [_, _], _ => rfl) fun cdv A outer s H vs Q E hr h => ?_
  · obtain ⟨_, _, rfl, _⟩ := h
    rfl
  · obtain ⟨ds, r, ⟨row, ss, rfl, h2, h3, rfl⟩, ha, hQ⟩ := h
    obtain ⟨x, y, rfl, hx, hy⟩ := dpa2 ha
    have hx' : Dp K H x (.tuple (row.map .int)) := hx
    have hy' : Dp K H y (.tuple ((ss.map Int.ofNat).map .int)) := hy
    have htail : D1.cutD ((ss.map Int.ofNat).map PyData.int) (some 1) none = (ss.tail.map Int.ofNat).map PyData.int := by rw [cut_tail, List.map_tail, List.map_tail]
    refine s_lcZT 2 rfl rfl (own := [("start", 3), ("following", 4)]) (i := 3) (j := 4) (ds := (ss.map Int.ofNat).map PyData.int) (fs := (ss.tail.map Int.ofNat).map PyData.int) (extD row) rfl sc_next_width.nd (by rfl) B.zip (by walk_at "ev") (EvD.is (by walk_at "ev") (by rw [htail])) (blkOk_by (N := N_next_width) (sc := defScope s_next_width) (by decide +kernel)) rfl rfl rfl rfl (fun _ _ => rfl) (by simp; omega) (fun d f hm => ?_) ?_ (kk := fun l xs H1 e1 hl0 hl1 hxs => ?_)
    · obtain ⟨a, b, rfl, rfl, _⟩ := nats_zip _ _ hm
      show noL (.int _) = true
      rw [noL]
    · intro s0 H0 C0 cl0 fp0 d f u v H2 e2 hm hu hv
      obtain ⟨a, b, rfl, rfl, hm2⟩ := nats_zip _ _ hm
      obtain ⟨hb1, ha1⟩ := h3 _ hm2
      cases hu
      cases hv
      have hx3 := dp_ex e2 hx'
      exact d_call G hr (by rfl) (ds := [rowD row, .int a, .int b]) (by show EvA _ _ _ _ [.tuple (row.map .int), .int a, .int b]; walk_at "ea") ⟨row, a, b, rfl, by simp at ha1; omega, hb1, rfl⟩
    · have hwid : (((ss.map Int.ofNat).map PyData.int).zip ((ss.tail.map Int.ofNat).map PyData.int)).map (fun p => extD row p.1 p.2) = (widths row ss).map .int := by
        rw [zip_nats, widths, List.map_map]
        rfl
      rw [hwid] at hxs
      have hd : Dp K H1 (.ref l) (.list ((widths row ss).map .int)) := .lst (sq_of hl1) hxs
      refine bl_retD (d := optD (nextWidth row ss)) (d_if (k := !((widths row ss).map PyData.int).isEmpty) (EvB.is (b_ne (r64 hr) (by walk_at "ev") (EvN.toD (n_lst (ds := []) a_nil (by decide))) (shaped_ints _) shaped_nil) (by rw [eqv_nil])) (fun hk => ?_) fun hk => ?_) rfl fun v H2 e2 hv => hQ v H2 (e1.trans e2) hv
      · have hne : widths row ss ≠ [] := fun z => by rw [z] at hk; cases hk
        unfold nextWidth
        rw [if_neg hne]
        exact d_minL rfl (by rfl) B.min (by walk_at "ev") (List.length_pos_iff.mpr hne)
      · have hne : widths row ss = [] := by
          cases e : widths row ss with
          | nil => rfl
          | cons a l => rw [e] at hk; cases hk
        unfold nextWidth
        rw [if_pos hne]
        exact d_none
end
end TX
end
section
namespace TX
open PySem PySem.Spec PyProof.Rows L2 Evl W1 D1 MM
section
variable {P : Program} {w : World} {K : PySem.W.Frag} {mg : Str → Option Value} {base : Heap}
def bkD (p : Int × List Nat) : PyData := .tuple [.int p.1, natsD p.2]
def stD (p : Int × Nat) : PyData := .tuple [.int p.1, .int (p.2 : Int)]
def optV : Option Int → V
  | none => .non
  | some i => .int i
theorem noL_nats (l : List Nat) : noL (natsD l) = true := noL_row _
theorem noL_bk (p : Int × List Nat) : noL (bkD p) = true := by
  have h : noL (natsD p.2) = true := noL_nats p.2
  simp [bkD, noL, noLs, h]
theorem noL_st (p : Int × Nat) : noL (stD p) = true := by simp [stD, noL, noLs]
theorem noLs_map {α : Type} (f : α → PyData) (h : ∀ a, noL (f a) = true) (l : List α) : noLs (l.map f) = true := all_noLs fun d hd => by
  obtain ⟨a, _, rfl⟩ := List.mem_map.mp hd
  exact h a
def R_book_of : List PyData → PyData → Prop := fun ds r => ∃ (row : List Int), ds = [rowD row] ∧ RowOk row ∧ r = .tuple ((bookOf row).map bkD)
theorem book_of_ok (D : Df K mg "book_of" s_book_of) (B : Bi mg) (G : Gf P w K mg base 1 "longest" P_longest (Spf K R_longest)) (G2 : Gf P w K mg base 3 "starts_of" P_starts_of (Spf K R_starts_of)) (G3 : Gf P w K mg base 2 "next_width" P_next_width (Spf K R_next_width)) : Gf P w K mg base 4 "book_of" P_book_of (Spf K R_book_of) := by
  refine D.gf 3 sc_book_of (Spf_len (n := 1) fun ds r h => ?_) (fun _ _ _ _ _ _ us hl => match us, hl with | [_], _ => rfl) fun cdv A outer s H vs Q E hr h => ?_
  · obtain ⟨_, rfl, _⟩ := h
    rfl
  · obtain ⟨ds, r, ⟨row, rfl, hrow, rfl⟩, ha, hQ⟩ := h
    obtain ⟨x, rfl, hx⟩ := dpa1 ha
    have hx' : Dp K H x (.tuple (row.map .int)) := hx
    have hmax := maxI_row hrow
    refine bl_set 1 sc_book_of.nd rfl (.inl rfl) ((d_call G (hr.mono (by decide)) (by rfl) (ds := [rowD row]) (by show EvA _ _ _ _ [.tuple (row.map .int)]; walk_at "ea") ⟨row, rfl, hrow.pos, rfl⟩).go fun v H1 e1 hv => ?_)
    cases hv
    refine bl_set 2 sc_book_of.nd rfl (.inl rfl) ((n_lst (ds := []) a_nil (by decide)).go fun v H2 e2 ⟨l, xs, ev, hl0, hl1, hxs⟩ => ?_)
    subst ev
    cases hxs
    have hlH : H l = none := fresh_back e1 hl0
    have e12 : Ex H H2 := e1.trans e2
    refine bl_while po (fun m σ' H' => ∃ (wo : Option Int) (xs : List V) (acc : List (Int × List Nat)) (st : Option V), σ' = [some x, some (optV wo), some (.ref l), st] ∧ Ex H H' ∧ H' l = some (.lst xs) ∧ DpAll K H' xs (acc.map bkD) ∧ acc ++ (match wo with | none => [] | some w => book row w) = bookOf row ∧ (∀ w, wo = some w → w ≤ 3000) ∧ m = (match wo with | none => 0 | some w => (3000 - w).toNat + 1)) ((3000 - MM.maxI row).toNat + 1)
      ⟨some (MM.maxI row), [], [], none, rfl, e12, hl1, .nil, rfl, fun w hw => by cases hw; omega, rfl⟩ fun m σ' H' ⟨wo, xs, acc, st, hσ, eH, hl, hacc, hbook, hw3, hm⟩ => ?_
    subst hσ
    cases wo with
    | none =>
      refine ⟨!isNo .none, b_notN (by walk_at "var"), (fun h => by cases h), fun h H3 e3 => ?_⟩
      have hd : Dp K H3 (.ref l) (.list (acc.map bkD)) := .lst (sq_of (e3 _ _ hl)) (dpa_ex e3 hacc)
      have hb : acc = bookOf row := by rw [← hbook]; simp
      rw [← hb] at hQ
      exact bl_retD (d_tupleL (by rfl) B.tuple (by walk_at "ev")) rfl fun v H4 e4 hv => hQ v H4 (eH.trans (e3.trans e4)) hv
    | some wd =>
      refine ⟨!isNo (.int wd), b_notN (by walk_at "var"), fun h H3 e3 => ?_, (fun h => by cases h)⟩
      have hx3 := dp_ex (eH.trans e3) hx'
      have hwd := hw3 wd rfl
      refine bl_set 3 sc_book_of.nd rfl (.inl rfl) ((d_call G2 hr (by rfl) (ds := [rowD row, .int wd]) (by show EvA _ _ _ _ [.tuple (row.map .int), .int wd]; walk_at "ea") ⟨row, wd, rfl, hrow.pos, by have := hrow.few; omega, rfl⟩).go fun v H4 e4 hv => ?_)
      have hv' : Dp K H4 v (.tuple (((starts row wd).map Int.ofNat).map .int)) := hv
      have hacl : acc.length ≤ 3001 := by
        have h1 := congrArg List.length hbook
        have h2 := book_len (r := row) (MM.maxI row)
        have h3 : (bookOf row).length ≤ 3001 := by unfold bookOf; omega
        rw [List.length_append] at h1
        omega
      have hxl := dpa_length hacc
      rw [List.length_map] at hxl
      refine bl_app (i := 2) rfl (.inl rfl) rfl (e4 _ _ (e3 _ _ hl)) (Φ := fun u H' => Dp K H' u (bkD (wd, starts row wd))) (d_tup (ds := [.int wd, .tuple (((starts row wd).map Int.ofNat).map .int)]) (by walk_at "ea") (by simp)) (by omega) fun u H5 e5 hu => ?_
      have hl5 : H5 l = some (.lst xs) := e5 _ _ (e4 _ _ (e3 _ _ hl))
      have e6 : Ex H (upd H5 l (.lst (xs ++ [u]))) := Ex.mut (eH.trans (e3.trans (e4.trans e5))) hlH
      have t6 : Tu K H5 (upd H5 l (.lst (xs ++ [u]))) := Tu.lst hl5
      have hacc6 : DpAll K (upd H5 l (.lst (xs ++ [u]))) (xs ++ [u]) ((acc ++ [(wd, starts row wd)]).map bkD) := by
        rw [List.map_append]
        exact dpa_append (dpa_tu t6 (noLs_map _ noL_bk _) (dpa_ex (e3.trans (e4.trans e5)) hacc)) (.cons (dp_tu t6 (noL_bk _) hu) .nil)
      have hv6 : Dp K (upd H5 l (.lst (xs ++ [u]))) v (.tuple (((starts row wd).map Int.ofNat).map .int)) := dp_tu t6 (noL_row _) (dp_ex e5 hv')
      have hx6 := dp_ex e6 hx'
      refine bl_set 1 sc_book_of.nd rfl (.inl rfl) ((d_call G3 (hr.mono (by decide)) (by rfl) (ds := [rowD row, natsD (starts row wd)]) (by show EvA _ _ _ _ [.tuple (row.map .int), .tuple (((starts row wd).map Int.ofNat).map .int)]; walk_at "ea") ⟨row, starts row wd, rfl, by have := starts_len row wd hrow.pos; have := hrow.few; omega, fun p hp => (starts_pairs row wd hrow.pos p hp).2, rfl⟩).go fun v2 H7 e7 hv2 => ?_)
      have hbk := book_eq hrow wd
      cases hnw : nextWidth row (starts row wd) with
      | none =>
        rw [hnw] at hv2 hbk
        obtain rfl : v2 = .non := dp_non hv2
        refine bl_nil ⟨0, by rw [hm]; exact Nat.succ_pos _, none, xs ++ [u], acc ++ [(wd, starts row wd)], some v, rfl, e6.trans e7, e7 _ _ upd_same, dpa_ex e7 hacc6, ?_, (fun w hw => by cases hw), rfl⟩
        rw [← hbook]
        show acc ++ [(wd, starts row wd)] ++ [] = acc ++ book row wd
        rw [hbk, List.append_nil]
      | some w2 =>
        rw [hnw] at hv2 hbk
        obtain rfl : v2 = .int w2 := dp_int hv2
        have hgt := nextWidth_gt hrow hnw
        refine bl_nil ⟨(3000 - w2).toNat + 1, by rw [hm]; show _ < (3000 - wd).toNat + 1; omega, some w2, xs ++ [u], acc ++ [(wd, starts row wd)], some v, rfl, e6.trans e7, e7 _ _ upd_same, dpa_ex e7 hacc6, ?_, (fun w hw => by cases hw; exact hgt.2), rfl⟩
        rw [← hbook]
        show acc ++ [(wd, starts row wd)] ++ book row w2 = acc ++ book row wd
        rw [hbk, List.append_assoc]
        rfl
end
end TX
end
section
namespace TX
open PySem PySem.Spec PyProof.Rows L2 Evl W1 D1 MM
section
variable {P : Program} {w : World} {K : PySem.W.Frag} {mg : Str → Option Value} {base : Heap}
theorem lay_st : ∀ l : List (Int × Nat), PyData.canLayAll0 (l.map stD) = true ∧ PyData.depthAll (l.map stD) ≤ 1
  | [] => by simp [PyData.canLayAll0, PyData.depthAll]
  | p :: l => by
    obtain ⟨h1, h2⟩ := lay_st l
    refine ⟨by simp [PyData.canLayAll0, PyData.canLay0, stD, h1], ?_⟩
    have h3 : (stD p).depth = 1 := by simp [stD, PyData.depth, PyData.depthAll]
    simp only [List.map_cons, PyData.depthAll]
    omega
theorem shaped_st (l : List (Int × Nat)) : SeqAt.shaped (.list (l.map stD)) = true := by
  obtain ⟨h1, h2⟩ := lay_st l
  have h3 : PyData.depth (.list (l.map stD)) ≤ 64 := by
    simp only [PyData.depth]
    omega
  show (PyData.canLay0 (.list (l.map stD)) && decide (PyData.depth (.list (l.map stD)) ≤ 64)) = true
  rw [Bool.and_eq_true]
  exact ⟨by simp only [PyData.canLay0]; exact h1, decide_eq_true h3⟩
theorem atI_last {l : List PyData} {d : PyData} (h : l.getLast? = some d) : atI l (-1) = some d := by
  have hne : l ≠ [] := fun z => by rw [z] at h; cases h
  have hp : 0 < l.length := List.length_pos_iff.mpr hne
  have e : ixN l.length (-1) = some (l.length - 1) := by
    unfold ixN
    rw [if_neg (by omega)]
    rw [if_pos (by omega)]
    congr 1
    omega
  unfold atI
  rw [e]
  show l[l.length - 1]? = some d
  rw [← List.getLast?_eq_getElem?]
  exact h
def R_steps_of : List PyData → PyData → Prop := fun ds r => ∃ (row : List Int), ds = [rowD row] ∧ RowOk row ∧ r = .tuple ((stepsOf row).map stD)
theorem stepAdd_len (acc : List (Int × Nat)) (p : Int × List Nat) : (stepAdd acc p).length ≤ acc.length + 1 := by
  unfold stepAdd
  split
  · simp
  · omega
theorem foldl_len : ∀ (l : List (Int × List Nat)) (acc : List (Int × Nat)), (l.foldl stepAdd acc).length ≤ acc.length + l.length
  | [], acc => by simp
  | p :: l, acc => by
    have h1 := foldl_len l (stepAdd acc p)
    have h2 := stepAdd_len acc p
    show (l.foldl stepAdd (stepAdd acc p)).length ≤ _
    rw [List.length_cons]
    omega
theorem book_short (row : List Int) (h : RowOk row) : (bookOf row).length ≤ 3001 := by
  have h2 := book_len (r := row) (MM.maxI row)
  have := maxI_row h
  unfold bookOf
  omega
theorem steps_of_ok (D : Df K mg "steps_of" s_steps_of) (B : Bi mg) (G : Gf P w K mg base 4 "book_of" P_book_of (Spf K R_book_of)) : Gf P w K mg base 5 "steps_of" P_steps_of (Spf K R_steps_of) := by
  refine D.gf 4 sc_steps_of (Spf_len (n := 1) fun ds r h => ?_) (fun _ _ _ _ _ _ us hl => match us, hl with | [_], _ => rfl) fun cdv A outer s H vs Q E hr h => ?_
  · obtain ⟨_, rfl, _⟩ := h
    rfl
  · obtain ⟨ds, r, ⟨row, rfl, hrow, rfl⟩, ha, hQ⟩ := h
    obtain ⟨x, rfl, hx⟩ := dpa1 ha
    have hx' : Dp K H x (.tuple (row.map .int)) := hx
    refine bl_set 1 sc_steps_of.nd rfl (.inl rfl) ((n_lst (ds := []) a_nil (by decide)).go fun v H2 e2 ⟨l, xs, ev, hl0, hl1, hxs⟩ => ?_)
    subst ev
    cases hxs
    have hx2 := dp_ex e2 hx'
    refine bl_forT (g := gTwo K 2 3) po rfl (pg_two rfl sc_steps_of.nd rfl rfl rfl rfl) (ds := (bookOf row).map bkD) (d_call G hr (by rfl) (ds := [rowD row]) (by show EvA _ _ _ _ [.tuple (row.map .int)]; walk_at "ea") ⟨row, rfl, hrow, rfl⟩) (noLs_map _ noL_bk _)
      (fun H1 n σ' H' => ∃ (xs : List V) (a b : Option V), σ' = [some x, some (.ref l), a, b] ∧ Ex H H' ∧ Tu K H1 H' ∧ H' l = some (.lst xs) ∧ DpAll K H' xs ((((bookOf row).take n).foldl stepAdd []).map stD)) (fun H1 e1 => ⟨[], none, none, rfl, e2.trans e1, Tu.refl _, e1 _ _ hl1, .nil⟩) (fun H1 n σ' H' _ p => by obtain ⟨_, _, _, _, _, t, _⟩ := p; exact t) (fun H1 n d v σ' H' e1 hd hv p => ?_) (fun H1 σ' H' e1 p => ?_)
    · obtain ⟨xs, a, b, rfl, eH, t1, hl, hacc⟩ := p
      rw [List.getElem?_map] at hd
      cases hb : (bookOf row)[n]? with
      | none => rw [hb] at hd; cases hd
      | some p =>
        rw [hb] at hd
        obtain ⟨wd, ss⟩ := p
        cases (show _ = _ from Option.some.inj hd)
        obtain ⟨t, zs, rfl, ht, hzs⟩ := dp_tup hv
        obtain ⟨u1, u2, rfl, hu1, hu2⟩ := dpa2 hzs
        cases hu1
        have hu2' : Dp K H' u2 (.tuple ((ss.map Int.ofNat).map .int)) := hu2
        refine gTwo_use ht ?_
        generalize hA : ((bookOf row).take n).foldl stepAdd [] = acc at hacc
        have htk : ((bookOf row).take (n + 1)).foldl stepAdd [] = stepAdd acc (wd, ss) := by
          rw [List.take_add_one, hb, List.foldl_append, hA]
          rfl
        have hal : acc.length ≤ 3001 := by
          have h1 := foldl_len ((bookOf row).take n) []
          have h2 := book_short row hrow
          rw [hA] at h1
          rw [List.length_take, List.length_nil] at h1
          omega
        have hxl := dpa_length hacc
        rw [List.length_map] at hxl
        have hd2 : Dp K H' (.ref l) (.list (acc.map stD)) := .lst (sq_of hl) hacc
        have hlen : (((ss.map Int.ofNat).map PyData.int).length : Int) = (ss.length : Int) := by rw [List.length_map, List.length_map]
        have hiff : (PyData.eqv (.list (acc.map stD)) (.list []) || !PyData.eqv (.int (((acc.getLast?.map (·.2)).getD 0 : Nat) : Int)) (.int (((ss.map Int.ofNat).map PyData.int).length : Nat))) = true ↔ (acc = [] ∨ (acc.getLast?.map (·.2)) ≠ some ss.length) := by
          rw [eqv_nil, eqv_int, hlen]
          cases acc with
          | nil => simp
          | cons q acc =>
            rw [List.getLast?_cons]
            simp
            omega
        refine bl_when (k := PyData.eqv (.list (acc.map stD)) (.list []) || !PyData.eqv (.int (((acc.getLast?.map (·.2)).getD 0 : Nat) : Int)) (.int (((ss.map Int.ofNat).map PyData.int).length : Nat))) (EvW.tob (w_or (b_eq (r64 hr) (by walk_at "ev") (EvN.toD (n_lst (ds := []) a_nil (by decide))) (shaped_st acc) shaped_nil) fun hne => w_or1 (b_ne (r64 hr) (d_ixT (ds := [.int (((acc.getLast?.map (·.1)).getD 0)), .int (((acc.getLast?.map (·.2)).getD 0 : Nat) : Int)]) (d_ixL (ds := acc.map stD) (i := -1) (by walk_at "ev") (d_neg d_int) (atI_last ?_)) d_int rfl) (by walk_at "ev") (shaped_int _) (shaped_int _)))) (fun hkt H3 e3 => ?_) fun hkf H3 e3 => bl_nil ⟨xs, some (.int wd), some u2, rfl, eH.trans e3, t1.trans (Tu.of e3), e3 _ _ hl, ?_⟩
        · rw [eqv_nil] at hne
          cases acc with
          | nil => cases hne
          | cons q acc =>
            rw [List.getLast?_map, List.getLast?_cons]
            rfl
        · have hc := hiff.mp hkt
          refine bl_app (i := 1) rfl (.inl rfl) rfl (e3 _ _ hl) (Φ := fun u H' => Dp K H' u (stD (wd, ss.length))) (EvD.is (d_tup (ds := [.int wd, .int (((ss.map Int.ofNat).map PyData.int).length : Nat)]) (by walk_at "ea") (by simp)) (by rw [List.length_map, List.length_map]; rfl)) (by omega) fun u H4 e4 hu => ?_
          have hl4 : H4 l = some (.lst xs) := e4 _ _ (e3 _ _ hl)
          have t6 : Tu K H4 (upd H4 l (.lst (xs ++ [u]))) := Tu.lst hl4
          refine bl_nil (bl_nil ⟨xs ++ [u], some (.int wd), some u2, rfl, Ex.mut (eH.trans (e3.trans e4)) hl0, t1.trans ((Tu.of (e3.trans e4)).trans t6), upd_same, ?_⟩)
          rw [htk, stepAdd, if_pos hc, List.map_append]
          exact dpa_append (dpa_tu t6 (noLs_map _ noL_st _) (dpa_ex (e3.trans e4) hacc)) (.cons (dp_tu t6 (noL_st _) hu) .nil)
        · have hc : ¬ (acc = [] ∨ (acc.getLast?.map (·.2)) ≠ some ss.length) := fun z => by rw [hiff.mpr z] at hkf; cases hkf
          rw [htk, stepAdd, if_neg hc]
          exact dpa_ex e3 hacc
    · obtain ⟨xs, a, b, rfl, eH, t1, hl, hacc⟩ := p
      rw [List.length_map, List.take_length] at hacc
      have hd : Dp K H' (.ref l) (.list ((stepsOf row).map stD)) := .lst (sq_of hl) hacc
      exact bl_retD (d_tupleL (by rfl) B.tuple (by walk_at "ev")) rfl fun v H4 e4 hv => hQ v H4 (eH.trans e4) hv
def R_row_error : List PyData → PyData → Prop := fun ds r => ∃ (row : List Int), ds = [rowD row] ∧ RowOk row ∧ r = .none
theorem row_error_ok (D : Df K mg "row_error" s_row_error) (B : Bi mg) (C : Co mg) (G : Gf P w K mg base 2 "is_length" P_is_length (Spf K R_is_length)) : Gf P w K mg base 3 "row_error" P_row_error (Spf K R_row_error) := by
  refine D.gf 2 sc_row_error (Spf_len (n := 1) fun ds r h => ?_) (fun _ _ _ _ _ _ us hl => match us, hl with | [_], _ => rfl) fun cdv A outer s H vs Q E hr h => ?_
  · obtain ⟨_, rfl, _⟩ := h
    rfl
  · obtain ⟨ds, r, ⟨row, rfl, hrow, rfl⟩, ha, hQ⟩ := h
    obtain ⟨x, rfl, hx⟩ := dpa1 ha
    have hx' : Dp K H x (.tuple (row.map .int)) := hx
    have hW := C.words
    refine bl_when (k := !true || !(decide ((1 : Int) ≤ ((row.map PyData.int).length : Nat)) && decide ((((row.map PyData.int).length : Nat) : Int) ≤ 24))) (by walk_at "eb") (fun hk => ?_) fun _ H1 e1 => ?_
    · have h1 := hrow.pos
      have h2 := hrow.few
      rw [List.length_map, decide_eq_true (show (1 : Int) ≤ (row.length : Nat) by omega), decide_eq_true (show ((row.length : Nat) : Int) ≤ 24 by omega)] at hk
      cases hk
    have hx1 := dp_ex e1 hx'
    refine bl_enum (i := 1) (j := 2) po rfl sc_row_error.nd rfl rfl rfl rfl (by rfl) B.enumerate (ds := row.map .int) (by walk_at "ev") (noLs_ints row)
      (fun H2 n σ' H' => Ex H2 H' ∧ ∃ a b, σ' = [some x, a, b]) (fun H2 e2 => ⟨Ex.refl _, _, _, rfl⟩) (fun H2 n σ' H' _ p => Tu.of p.1) (fun H2 n d v σ' H' H3 e2 hd hv p e3 => ?_) (fun H2 σ' H' e2 p => ?_)
    · obtain ⟨p1, a, b, rfl⟩ := p
      obtain ⟨i, hi, rfl⟩ : ∃ i, row[n]? = some i ∧ .int i = d := by
        rw [List.getElem?_map] at hd
        cases e : row[n]? with
        | none => rw [e] at hd; cases hd
        | some i => rw [e] at hd; exact ⟨i, rfl, Option.some.inj hd⟩
      cases hv
      have hok := hrow.all i (List.mem_of_getElem? hi)
      refine bl_when (k := !intIn (.int i) 1 60) (b_not (b_val (d_call G hr (by rfl) (ds := [.int i]) (by walk_at "ea") ⟨.int i, rfl, .inr ⟨i, rfl⟩, rfl⟩))) (fun hk => ?_) fun _ H4 e4 => bl_nil ⟨p1.trans (e3.trans e4), _, _, rfl⟩
      simp only [intIn, Bool.not_eq_true', Bool.and_eq_false_iff, decide_eq_false_iff_not] at hk
      omega
    · obtain ⟨p1, a, b, rfl⟩ := p
      exact bl_retD d_none rfl fun v H4 e4 hv => hQ v H4 (e1.trans (e2.trans (p1.trans e4))) hv
end
end TX
end
section
namespace TX
open PySem PySem.Spec PyProof.Rows L2 Evl W1 D1 MM
section
variable {P : Program} {w : World} {K : PySem.W.Frag} {mg : Str → Option Value} {base : Heap}
/-- the text of an int, of any other nothing -/
def strD : PyData → PyData
  | .int i => .str (sI i)
  | _ => .none
theorem map_strD (l : List Int) : (l.map PyData.int).map strD = (l.map sI).map .str := by
  rw [List.map_map, List.map_map]
  rfl
theorem i2000 {i : Int} (h0 : 0 ≤ i) (h1 : i ≤ 2100) : i.natAbs < 2 ^ 64 := by
  have : i.natAbs < 2101 := by omega
  omega
theorem strs_sum {l : List Int} (h : ∀ x ∈ l, 0 ≤ x ∧ x ≤ 2100) : ((l.map sI).map (·.length)).sum ≤ 4 * l.length := by
  have := sumlen_le (l := l.map sI) (k := 4) fun x hx => by
    obtain ⟨i, hi, rfl⟩ := List.mem_map.mp hx
    exact sI_len (h i hi).1 (h i hi).2
  rw [List.length_map] at this
  exact this
theorem row_small {r : List Int} (h : RowOk r) : ∀ x ∈ r, 0 ≤ x ∧ x ≤ 2100 := fun x hx => by
  have := h.all x hx
  omega
def R_row_text : List PyData → PyData → Prop := fun ds r => ∃ (row : List Int), ds = [rowD row] ∧ RowOk row ∧ r = .str (rowText row)
theorem row_text_ok (D : Df K mg "row_text" s_row_text) (B : Bi mg) (C : Co mg) : Gf P w K mg base 1 "row_text" P_row_text (Spf K R_row_text) := by
  refine D.gf 0 sc_row_text (Spf_len (n := 1) fun ds r h => ?_) (fun _ _ _ _ _ _ us hl => match us, hl with | [_], _ => rfl) fun cdv A outer s H vs Q E hr h => ?_
  · obtain ⟨_, rfl, _⟩ := h
    rfl
  · obtain ⟨ds, r, ⟨row, rfl, hrow, rfl⟩, ha, hQ⟩ := h
    obtain ⟨x, rfl, hx⟩ := dpa1 ha
    have hx' : Dp K H x (.tuple (row.map .int)) := hx
    have hR := C.row
    have h2 := hrow.few
    have hs := strs_sum (row_small hrow)
    refine bl_retD (d_join (sep := " ") (ys := "row" :: row.map sI) d_str (d_lst (ds := .str "row" :: ((row.map sI).map .str)) (a_cons (by walk_at "ev") ?_) (by simp; omega)) ?_) rfl hQ
    · refine a_starL (ts := (row.map sI).map .str) (ds := []) ?_ a_nil |> fun z => by rw [List.append_nil] at z; exact z
      rw [← map_strD]
      refine EvN.toD (n_lcT (own := [("length", 1)]) (j := 1) strD rfl sc_row_text.nd (by walk_at "ev") (blkOk_by (N := N_row_text) (sc := defScope s_row_text) (by decide +kernel)) rfl rfl (fun _ => rfl) (by simp; omega) (fun d hd => ?_) ?_)
      · obtain ⟨i, _, rfl⟩ := List.mem_map.mp hd
        rfl
      · intro s0 H0 C0 cl0 fp0 d v H1 e1 hd hv
        obtain ⟨i, hi, rfl⟩ := List.mem_map.mp hd
        have := row_small hrow i hi
        exact d_strI (by rfl) B.str (by walk_at "var") (i2000 this.1 this.2)
    · rw [List.map_cons, List.sum_cons, List.length_cons, List.length_map]
      show 3 + _ + (row.length + 1) * 1 ≤ _
      omega
/-! ### check_width -/
def optI : Option Int → PyData
  | none => .none
  | some i => .int i
def S_check_width (K : PySem.W.Frag) : Sp := fun vs H Q E => ∃ (i : Int), DpAll K H vs [.int i] ∧ (1 ≤ i ∧ i ≤ 2000 → ∀ H', Ex H H' → Q .non H') ∧ (¬ (1 ≤ i ∧ i ≤ 2000) → Rs K H E "NoWidth" "value" (.int i))
theorem check_width_ok (D : Df K mg "check_width" s_check_width) (G : Gf P w K mg base 1 "is_integer" P_is_integer (Spf K R_is_integer)) (Cc : Co mg) (C : Er K mg "NoWidth" "value") : Gf P w K mg base 3 "check_width" P_check_width (S_check_width K) := by
  refine D.gf 2 sc_check_width (fun vs H Q E h => ?_) (fun _ _ _ _ _ _ us hl => match us, hl with | [_], _ => rfl) fun cdv A outer s H vs Q E hr h => ?_
  · obtain ⟨_, ha, _⟩ := h
    exact dpa_length ha
  · obtain ⟨i, ha, h1, h2⟩ := h
    obtain ⟨x, rfl, hx⟩ := dpa1 ha
    cases hx
    have hW := Cc.width
    refine bl_when (k := !intIn (.int i) 1 2000) (b_not (b_val (d_call G (hr.mono (by decide)) (by rfl) (ds := [.int i, .int 1, .int 2000]) (by walk_at "ea") ⟨_, _, _, rfl, .inr ⟨i, rfl⟩, rfl⟩))) (fun hk H1 e1 => ?_) fun hk H1 e1 => ?_
    · have hn : ¬ (1 ≤ i ∧ i ≤ 2000) := fun z => by
        simp only [intIn, Bool.not_eq_true', Bool.and_eq_false_iff, decide_eq_false_iff_not] at hk
        omega
      exact bl_raise1 (E := E) (L2N.takes_of rfl rfl rfl rfl) rfl C hr (by rfl) (by walk_at "ev") ((h2 hn).ex e1)
    · have hp : 1 ≤ i ∧ i ≤ 2000 := by
        simp only [intIn, Bool.not_eq_false', Bool.and_eq_true, decide_eq_true_eq] at hk
        omega
      exact bl_nil (h1 hp H1 e1)
end
end TX
end
section
namespace TX
open PySem PySem.Spec PyProof.Rows L2 Evl W1 D1 MM
section
variable {P : Program} {w : World} {K : PySem.W.Frag} {mg : Str → Option Value} {base : Heap}
theorem d_strS {X : Cx} {a : Expr} {σ : L2.St} {H : Hp} {pos p : Pos} {i : Str} (hg : Gl X "str") (hm : X.mg "str" = none) (ha : EvD X a σ H (.str i)) (he : starEach [a] X.env = (false, eval a X.env) :: starEach [] X.env := by rfl) : EvD X (.Call (.Name "str" p) [a] [] pos) σ H (.str i) :=
  d_ct (x := "str") (T := "str") SkE.call_str_str hg hm boot_str (a_cons ha a_nil he) (fun vs H2 _ hvs Q q => by
    cases hvs with | cons h t => cases t; cases h; exact ⟨i, rfl, q _ H2 (Ex.refl H2) (.str _)⟩) (he := he)
theorem b_eqS {X : Cx} {a b : Expr} {σ : L2.St} {H : Hp} {pos : Pos} {i j : Str} (ha : EvD X a σ H (.str i)) (hb : EvD X b σ H (.str j)) : EvB X (.Compare a [.Eq] [b] pos) σ H (i == j) := b_cmp op_eq ha hb (nomark _) fun _ _ H2 _ hx hy _ q => by
  cases hx; cases hy
  exact ⟨rfl, by rw [dec_str]; exact q H2 (Ex.refl H2)⟩
theorem b_neS {X : Cx} {a b : Expr} {σ : L2.St} {H : Hp} {pos : Pos} {i j : Str} (ha : EvD X a σ H (.str i)) (hb : EvD X b σ H (.str j)) : EvB X (.Compare a [.NotEq] [b] pos) σ H (!(i == j)) := b_cmp op_ne ha hb (nomark _) fun _ _ H2 _ hx hy _ q => by
  cases hx; cases hy
  exact ⟨rfl, by rw [dec_str]; exact q H2 (Ex.refl H2)⟩
theorem d_eqS {X : Cx} {a b : Expr} {σ : L2.St} {H : Hp} {pos : Pos} {i j : Str} (ha : EvD X a σ H (.str i)) (hb : EvD X b σ H (.str j)) : EvD X (.Compare a [.Eq] [b] pos) σ H (.bool (i == j)) := d_cmp op_eq ha hb (nomark _) fun _ _ H2 _ hx hy _ q => by
  cases hx; cases hy
  exact ⟨rfl, by rw [dec_str]; exact q _ H2 (Ex.refl H2) (.bl _)⟩
theorem b_eqI {X : Cx} {a b : Expr} {σ : L2.St} {H : Hp} {pos : Pos} {i j : Int} (ha : EvD X a σ H (.int i)) (hb : EvD X b σ H (.int j)) : EvB X (.Compare a [.Eq] [b] pos) σ H (i == j) := b_cmp op_eq ha hb (nomark _) fun _ _ H2 _ hx hy _ q => by
  cases hx; cases hy
  exact ⟨rfl, by rw [dec_int]; exact q H2 (Ex.refl H2)⟩
theorem b_neI {X : Cx} {a b : Expr} {σ : L2.St} {H : Hp} {pos : Pos} {i j : Int} (ha : EvD X a σ H (.int i)) (hb : EvD X b σ H (.int j)) : EvB X (.Compare a [.NotEq] [b] pos) σ H (!(i == j)) := b_cmp op_ne ha hb (nomark _) fun _ _ H2 _ hx hy _ q => by
  cases hx; cases hy
  exact ⟨rfl, by rw [dec_int]; exact q H2 (Ex.refl H2)⟩
/-- a line of numbers -/
def Line (l : List Int) : Prop := l.length ≤ 24 ∧ ∀ x ∈ l, small x
def linesD : Option (List (List Int)) → PyData
  | none => .none
  | some ls => .tuple (ls.map rowD)
def sOf : PyData → Str
  | .int i => sI i
  | _ => ""
def lineD : PyData → PyData
  | .tuple ds => .str (Txt.join " " (ds.map sOf))
  | _ => .none
theorem lineD_row (l : List Int) : lineD (rowD l) = .str (Txt.join " " (l.map sI)) := by
  show PyData.str (Txt.join " " ((l.map PyData.int).map sOf)) = _
  rw [List.map_map]
  rfl
theorem line_len {l : List Int} (h : Line l) : (Txt.join " " (l.map sI)).length ≤ 120 := by
  have := join_len " " (l.map sI) 4 fun x hx => by
    obtain ⟨i, hi, rfl⟩ := List.mem_map.mp hx
    exact sI_len (h.2 i hi).1 (h.2 i hi).2
  rw [List.length_map] at this
  have h1 := h.1
  have e : (" " : Str).length = 1 := rfl
  rw [e] at this
  omega
def LinesOk : Option (List (List Int)) → Prop
  | none => True
  | some ls => ls.length ≤ 24 ∧ ∀ l ∈ ls, Line l
def R_lines_text : List PyData → PyData → Prop := fun ds r => ∃ lo, ds = [linesD lo] ∧ LinesOk lo ∧ r = .str (linesText lo)
theorem lines_str {ls : List (List Int)} : (ls.map rowD).map lineD = (ls.map fun l => Txt.join " " (l.map sI)).map .str := by
  rw [List.map_map, List.map_map]
  refine List.map_congr_left fun l _ => ?_
  exact lineD_row l
theorem lines_sum {ls : List (List Int)} (h : ls.length ≤ 24 ∧ ∀ l ∈ ls, Line l) : ((ls.map fun l => Txt.join " " (l.map sI)).map (·.length)).sum + (ls.map fun l => Txt.join " " (l.map sI)).length * 3 ≤ 10000 := by
  have := sumlen_le (l := ls.map fun l => Txt.join " " (l.map sI)) (k := 120) fun x hx => by
    obtain ⟨l, hl, rfl⟩ := List.mem_map.mp hx
    exact line_len (h.2 l hl)
  rw [List.length_map] at this ⊢
  have h1 := h.1
  omega
theorem lines_text_ok (D : Df K mg "lines_text" s_lines_text) (B : Bi mg) (C : Co mg) : Gf P w K mg base 1 "lines_text" P_lines_text (Spf K R_lines_text) := by
  refine D.gf 0 sc_lines_text (Spf_len (n := 1) fun ds r h => ?_) (fun _ _ _ _ _ _ us hl => match us, hl with | [_], _ => rfl) fun cdv A outer s H vs Q E hr h => ?_
  · obtain ⟨_, rfl, _⟩ := h
    rfl
  · obtain ⟨ds, r, ⟨lo, rfl, hlo, rfl⟩, ha, hQ⟩ := h
    obtain ⟨x, rfl, hx⟩ := dpa1 ha
    have hN := C.none
    refine bl_when (k := isNo (linesD lo)) (b_isN (by walk_at "var")) (fun hk H1 e1 => ?_) fun hk H1 e1 => ?_
    · cases lo with
      | some _ => cases hk
      | none => exact bl_retD (d := .str "none") (by walk_at "ev") rfl fun v H2 e2 hv => hQ v H2 (e1.trans e2) hv
    · cases lo with
      | none => cases hk
      | some ls =>
        have hx1 : Dp K H1 x (.tuple (ls.map rowD)) := dp_ex e1 hx
        refine bl_retD (d_join (sep := " / ") (ys := ls.map fun (l : List Int) => Txt.join " " (l.map sI)) d_str ?_ ?_) rfl fun v H2 e2 hv => hQ v H2 (e1.trans e2) hv
        · rw [← lines_str]
          refine EvN.toD (n_lcT (own := [("line", 1)]) (j := 1) lineD rfl sc_lines_text.nd (by walk_at "var") (blkOk_by (N := N_lines_text) (sc := defScope s_lines_text) (by decide +kernel)) rfl rfl (fun _ => rfl) (by have := hlo.1; simp; omega) (fun d hd => ?_) ?_)
          · obtain ⟨i, _, rfl⟩ := List.mem_map.mp hd
            rfl
          · intro s0 H0 C0 cl0 fp0 d v H2 e2 hd hv
            obtain ⟨l, hl, rfl⟩ := List.mem_map.mp hd
            have hv' : Dp K H2 v (.tuple (l.map .int)) := hv
            rw [lineD_row]
            have hL := hlo.2 l hl
            have hs := strs_sum (l := l) hL.2
            refine d_join (sep := " ") (ys := l.map sI) d_str ?_ ?_
            · rw [← map_strD]
              refine EvN.toD (n_lcT (own := [("length", 2)]) (j := 2) strD rfl sc_lines_text.nd (by walk_at "var") (blkOk_by (N := N_lines_text) (by rfl)) rfl rfl (fun _ => rfl) (by have := hL.1; simp; omega) (fun d hd => ?_) ?_)
              · obtain ⟨i, _, rfl⟩ := List.mem_map.mp hd
                rfl
              · intro s0 H0 C0 cl0 fp0 d v H1 e1 hd hv
                obtain ⟨i, hi, rfl⟩ := List.mem_map.mp hd
                have := hL.2 i hi
                exact d_strI (by rfl) B.str (by walk_at "var") (i2000 this.1 this.2)
            · rw [List.length_map]
              have := hL.1
              show _ + l.length * 1 ≤ _
              omega
        · have := lines_sum hlo
          show _ + _ * 3 ≤ _
          omega
theorem shown_lines_ok (D : Df K mg "_law_shown_lines" s__law_shown_lines) (B : Bi mg) : Gf P w K mg base 1 "_law_shown_lines" P__law_shown_lines (Spf K R_lines_text) := by
  refine D.gf 0 sc__law_shown_lines (Spf_len (n := 1) fun ds r h => ?_) (fun _ _ _ _ _ _ us hl => match us, hl with | [_], _ => rfl) fun cdv A outer s H vs Q E hr h => ?_
  · obtain ⟨_, rfl, _⟩ := h
    rfl
  · obtain ⟨ds, r, ⟨lo, rfl, hlo, rfl⟩, ha, hQ⟩ := h
    obtain ⟨x, rfl, hx⟩ := dpa1 ha
    refine bl_when (k := isNo (linesD lo)) (b_isN (by walk_at "var")) (fun hk H1 e1 => ?_) fun hk H1 e1 => ?_
    · cases lo with
      | some _ => cases hk
      | none => exact bl_retD (d := .str "none") (by walk_at "ev") rfl fun v H2 e2 hv => hQ v H2 (e1.trans e2) hv
    · cases lo with
      | none => cases hk
      | some ls =>
        have hx1 : Dp K H1 x (.tuple (ls.map rowD)) := dp_ex e1 hx
        refine bl_retD (d_join (sep := " / ") (ys := ls.map fun (l : List Int) => Txt.join " " (l.map sI)) d_str ?_ ?_) rfl fun v H2 e2 hv => hQ v H2 (e1.trans e2) hv
        · rw [← lines_str]
          refine EvN.toD (n_lcT (own := [("_law_line_here", 1)]) (j := 1) lineD rfl sc__law_shown_lines.nd (by walk_at "var") (blkOk_by (N := N__law_shown_lines) (sc := defScope s__law_shown_lines) (by decide +kernel)) rfl rfl (fun _ => rfl) (by have := hlo.1; simp; omega) (fun d hd => ?_) ?_)
          · obtain ⟨i, _, rfl⟩ := List.mem_map.mp hd
            rfl
          · intro s0 H0 C0 cl0 fp0 d v H2 e2 hd hv
            obtain ⟨l, hl, rfl⟩ := List.mem_map.mp hd
            have hv' : Dp K H2 v (.tuple (l.map .int)) := hv
            rw [lineD_row]
            have hL := hlo.2 l hl
            have hs := strs_sum (l := l) hL.2
            refine d_join (sep := " ") (ys := l.map sI) d_str ?_ ?_
            · rw [← map_strD]
              refine EvN.toD (n_lcT (own := [("_law_length", 2)]) (j := 2) strD rfl sc__law_shown_lines.nd (by walk_at "var") (blkOk_by (N := N__law_shown_lines) (by rfl)) rfl rfl (fun _ => rfl) (by have := hL.1; simp; omega) (fun d hd => ?_) ?_)
              · obtain ⟨i, _, rfl⟩ := List.mem_map.mp hd
                rfl
              · intro s0 H0 C0 cl0 fp0 d v H1 e1 hd hv
                obtain ⟨i, hi, rfl⟩ := List.mem_map.mp hd
                have := hL.2 i hi
                exact d_strI (by rfl) B.str (by walk_at "var") (i2000 this.1 this.2)
            · rw [List.length_map]
              have := hL.1
              show _ + l.length * 1 ≤ _
              omega
        · have := lines_sum hlo
          show _ + _ * 3 ≤ _
          omega
end
end TX
end
section
namespace TX
open PySem PySem.Spec PyProof.Rows L2 Evl W1 D1 MM
section
variable {P : Program} {w : World} {K : PySem.W.Frag} {mg : Str → Option Value} {base : Heap}
/-! ### _law_line, _law_said -/
def partD (d : PyData) : PyData := .str (partText d)
def R_law_line : List PyData → PyData → Prop := fun ds r => ∃ ps : List PyData, ds = [.tuple ps] ∧ ps.length ≤ 3 ∧ (∀ d ∈ ps, PartOk d) ∧ r = .str (lineText ps)
theorem law_line_ok (D : Df K mg "_law_line" s__law_line) (B : Bi mg) : Gf P w K mg base 1 "_law_line" P__law_line (Spf K R_law_line) := by
  refine D.gf 0 sc__law_line (Spf_len (n := 1) fun ds r h => ?_) (fun _ _ _ _ _ _ us hl => match us, hl with | [_], _ => rfl) fun cdv A outer s H vs Q E hr h => ?_
  · obtain ⟨_, rfl, _⟩ := h
    rfl
  · obtain ⟨ds, r, ⟨ps, rfl, hl, hp, rfl⟩, ha, hQ⟩ := h
    obtain ⟨x, rfl, hx⟩ := dpa1 ha
    refine bl_retD (d_join (sep := " ") (ys := ps.map partText) d_str ?_ ?_) rfl hQ
    · rw [show (ps.map partText).map PyData.str = ps.map partD by rw [List.map_map]; rfl]
      refine EvN.toD (n_lcT (own := [("_law_part", 1)]) (j := 1) partD rfl sc__law_line.nd (by walk_at "var") (blkOk_by (N := N__law_line) (sc := defScope s__law_line) (by decide +kernel)) rfl rfl (fun _ => rfl) (by omega) (fun d hd => rfl) ?_)
      intro s0 H0 C0 cl0 fp0 d v H1 e1 hd hv
      have hp := hp d hd
      cases d with
      | int i => exact d_strI (by rfl) B.str (by walk_at "var") (i2000 hp.1 hp.2)
      | str i => exact d_strS (by rfl) B.str (by walk_at "var")
      | _ => exact hp.elim
    · have := sumlen_le (l := ps.map partText) (k := 40) fun x hx => by
        obtain ⟨d, hd, rfl⟩ := List.mem_map.mp hx
        exact partText_len (hp d hd)
      rw [List.length_map] at this ⊢
      show _ + _ * 1 ≤ _
      omega
def okTag : Str := "ok"
/-- what is said of an outcome -/
def saidText (nm : Str) (d : PyData) : Str := if nm = okTag then "ok " ++ partText d else "error " ++ nm
def OutOk (nm : Str) (d : PyData) : Prop := nm.length ≤ 40 ∧ (nm = okTag → ∃ i, d = .int i ∧ small i)
def R_law_said : List PyData → PyData → Prop := fun ds r => ∃ nm d, ds = [.list [.str nm, d]] ∧ OutOk nm d ∧ r = .str (saidText nm d)
theorem law_said_ok (D : Df K mg "_law_said" s__law_said) (B : Bi mg) : Gf P w K mg base 1 "_law_said" P__law_said (Spf K R_law_said) := by
  refine D.gf 0 sc__law_said (Spf_len (n := 1) fun ds r h => ?_) (fun _ _ _ _ _ _ us hl => match us, hl with | [_], _ => rfl) fun cdv A outer s H vs Q E hr h => ?_
  · obtain ⟨_, _, rfl, _⟩ := h
    rfl
  · obtain ⟨ds, r, ⟨nm, d, rfl, ⟨hn, hd⟩, rfl⟩, ha, hQ⟩ := h
    obtain ⟨x, rfl, hx⟩ := dpa1 ha
    refine bl_retD (d := .str (saidText nm d)) (d_if (k := nm == okTag) (b_eqS (i := nm) (j := okTag) (d_ixL (by walk_at "var") d_int rfl) d_str) (fun hk => ?_) (fun hk => ?_)) rfl hQ
    · have hk := eq_of_beq hk
      obtain ⟨i, rfl, hs⟩ := hd hk
      unfold saidText
      rw [if_pos hk]
      have h4 := sI_len hs.1 hs.2
      refine d_addS d_str (d_strI (by rfl) B.str (d_ixL (d := .int i) (by walk_at "var") d_int rfl) (i2000 hs.1 hs.2)) ?_
      show 3 + (sI i).length ≤ _
      omega
    · have hk := ne_of_beq_false hk
      unfold saidText
      rw [if_neg hk]
      refine d_addS d_str (d_ixL (d := .str nm) (by walk_at "var") d_int rfl) ?_
      show 6 + nm.length ≤ _
      omega
/-! ### parse_number -/
def R_parse_number : List PyData → PyData → Prop := fun ds r => ∃ i, ds = [.str (sI i)] ∧ small i ∧ r = .int i
theorem parse_number_ok (D : Df K mg "parse_number" s_parse_number) (B : Bi mg) (C : Co mg) : Gf P w K mg base 1 "parse_number" P_parse_number (Spf K R_parse_number) := by
  refine D.gf 0 sc_parse_number (Spf_len (n := 1) fun ds r h => ?_) (fun _ _ _ _ _ _ us hl => match us, hl with | [_], _ => rfl) fun cdv A outer s H vs Q E hr h => ?_
  · obtain ⟨_, rfl, _⟩ := h
    rfl
  · obtain ⟨ds, r, ⟨i, rfl, hs, rfl⟩, ha, hQ⟩ := h
    obtain ⟨x, rfl, hx⟩ := dpa1 ha
    have hL := C.longest
    have hD := C.digits
    obtain ⟨a, b⟩ := sI_nat hs.1 hs.2
    have h4 : (sI i).length ≤ 4 := by rw [b]; exact a.four
    have h1 : 1 ≤ (sI i).length := by rw [b]; exact a.one
    have hdig : ∀ c ∈ (sI i).cps.toList, 48 ≤ c ∧ c ≤ 57 := by rw [b]; exact a.digs
    have hval : PySem.intText? (sI i) = some i := by
      rw [b, a.val]
      exact congrArg some (Int.toNat_of_nonneg hs.1)
    have hall : (((sI i).cps.toList.map fun c => decide (c ∈ digits.cps.toList)).all id) = true := by
      rw [List.all_map, List.all_eq_true]
      exact fun c hc => dig_in (hdig c hc)
    refine bl_when (k := !(decide ((1 : Int) ≤ ((sI i).length : Nat)) && decide ((((sI i).length : Nat) : Int) ≤ 4)) || !(((sI i).cps.toList.map fun c => decide (c ∈ digits.cps.toList)).all id)) (EvW.tob (w_or (b_not (y_chain d_int (d_lenS (by rfl) B.len (by walk_at "var") (by omega)) (by walk_at "ev") (by with_unfolding_all rfl))) (fun _ => w_or1 (b_not (b_val (d_all rfl (by rfl) B.all ?_)))))) (fun hk => ?_) fun _ H1 e1 => ?_
    · rw [show ((sI i).cps.toList.map fun c => decide (c ∈ digits.cps.toList)).map PyData.bool = (sI i).cps.toList.map fun c => PyData.bool (decide (c ∈ digits.cps.toList)) by rw [List.map_map]; rfl]
      refine EvN.toD (n_lcS (own := [("sign", 1)]) (j := 1) (fun c => PyData.bool (decide (c ∈ digits.cps.toList))) rfl sc_parse_number.nd (by walk_at "var") (blkOk_by (N := N_parse_number) (sc := defScope s_parse_number) (by decide +kernel)) rfl rfl (fun _ => rfl) (by omega) (fun d => rfl) ?_)
      intro s0 H0 C0 cl0 fp0 c H1 e1 hd
      exact d_inS (by walk_at "var") (by walk_at "ev") (by rfl)
    · rw [decide_eq_true (show (1 : Int) ≤ ((sI i).length : Nat) by omega), decide_eq_true (show ((((sI i).length : Nat) : Int) ≤ 4) by omega), hall] at hk
      cases hk
    refine bl_retD (d := .int i) (d_if (k := sI i == sI i) (b_eqS (d_strI (by rfl) B.str (d_intS (by rfl) B.int (by walk_at "var") hval (by omega)) (i2000 hs.1 hs.2)) (by walk_at "var")) (fun _ => d_intS (by rfl) B.int (by walk_at "var") hval (by omega)) (fun hk => by rw [beq_self_eq_true] at hk; cases hk)) rfl fun v H2 e2 hv => hQ v H2 (e1.trans e2) hv
end
end TX
end
section
namespace TX
open PySem PySem.Spec PyProof.Rows L2 Evl W1 D1 MM
section
variable {P : Program} {w : World} {K : PySem.W.Frag} {mg : Str → Option Value} {base : Heap}
/-! ### edits of a row -/
theorem cut_take (l : List PyData) (n : Nat) : D1.cutD l none (some (n : Int)) = l.take n := by
  unfold D1.cutD
  rw [HT.sIx_none, HT.sIx_nat, List.drop_zero, Nat.sub_zero]
  by_cases h : n ≤ l.length
  · rw [Nat.min_eq_left h]
  · rw [Nat.min_eq_right (by omega), List.take_length, List.take_of_length_le (by omega)]
theorem cut_drop (l : List PyData) (n : Nat) : D1.cutD l (some (n : Int)) none = l.drop n := by
  unfold D1.cutD
  rw [HT.sIx_none, HT.sIx_nat]
  by_cases h : n ≤ l.length
  · rw [Nat.min_eq_left h]
    exact List.take_of_length_le (by simp)
  · rw [Nat.min_eq_right (by omega), List.drop_length, List.drop_of_length_le (by omega)]
    exact List.take_nil
def RsB (K : PySem.W.Frag) (H : Hp) (E : XK) : Bad → Prop
  | .noPlace => RsA K H E "NoPlace" "value"
  | .tooMany => RsA K H E "TooMany" "limit"
  | .lastWord => Rs0 K H E "LastWord"
  | .tooLong => RsA K H E "TooLong" "place"
  | .tooManyEdits => Rs0 K H E "TooManyEdits"
  | .nothing => Rs0 K H E "NothingToUndo"
  | .busy => Rs0 K H E "Busy"
  | .noWidth => RsA K H E "NoWidth" "value"
  | .tooNarrow => RsA K H E "TooNarrow" "place"
theorem RsB.ex {H H1 : Hp} {E : XK} : ∀ {b : Bad}, RsB K H E b → Ex H H1 → RsB K H1 E b
  | .noPlace, h, e => RsA.ex h e
  | .tooMany, h, e => RsA.ex h e
  | .lastWord, h, e => Rs0.ex h e
  | .tooLong, h, e => RsA.ex h e
  | .tooManyEdits, h, e => Rs0.ex h e
  | .nothing, h, e => Rs0.ex h e
  | .busy, h, e => Rs0.ex h e
  | .noWidth, h, e => RsA.ex h e
  | .tooNarrow, h, e => RsA.ex h e
def S_check_length (K : PySem.W.Frag) : Sp := fun vs H Q _ => ∃ (i : Int), DpAll K H vs [.int i] ∧ 1 ≤ i ∧ i ≤ 60 ∧ ∀ H', Ex H H' → Q .non H'
theorem check_length_ok (D : Df K mg "check_length" s_check_length) (G : Gf P w K mg base 2 "is_length" P_is_length (Spf K R_is_length)) : Gf P w K mg base 3 "check_length" P_check_length (S_check_length K) := by
  refine D.gf 2 sc_check_length (fun vs H Q E h => ?_) (fun _ _ _ _ _ _ us hl => match us, hl with | [_], _ => rfl) fun cdv A outer s H vs Q E hr h => ?_
  · obtain ⟨_, ha, _⟩ := h
    exact dpa_length ha
  · obtain ⟨i, ha, h1, h2, hQ⟩ := h
    obtain ⟨x, rfl, hx⟩ := dpa1 ha
    cases hx
    refine bl_when (k := !intIn (.int i) 1 60) (b_not (b_val (d_call G hr (by rfl) (ds := [.int i]) (by walk_at "ea") ⟨.int i, rfl, .inr ⟨i, rfl⟩, rfl⟩))) (fun hk H1 e1 => ?_) fun hk H1 e1 => bl_nil (hQ H1 e1)
    simp only [intIn, Bool.not_eq_true', Bool.and_eq_false_iff, decide_eq_false_iff_not] at hk
    omega
/-- a result or an error -/
def Ans (K : PySem.W.Frag) (H : Hp) (Q : VK) (E : XK) : Except Bad (List Int) → Prop
  | .ok r => ∀ v H', Ex H H' → Dp K H' v (rowD r) → Q v H'
  | .error b => RsB K H E b
theorem Ans.ex {H H1 : Hp} {Q : VK} {E : XK} {o : Except Bad (List Int)} (h : Ans K H Q E o) (e : Ex H H1) : Ans K H1 Q E o := by
  cases o with
  | ok r => exact fun v H' e' hv => h v H' (e.trans e') hv
  | error b => exact RsB.ex h e
def S_changed (K : PySem.W.Frag) : Sp := fun vs H Q E => ∃ (r : List Int) (p l : Int), DpAll K H vs [rowD r, .int p, .int l] ∧ r.length ≤ 24 ∧ 1 ≤ l ∧ l ≤ 60 ∧ Ans K H Q E (editR r (.resize p l))
theorem changed_ok (D : Df K mg "changed" s_changed) (G : Gf P w K mg base 3 "check_place" P_check_place (S_check_place K)) (G2 : Gf P w K mg base 3 "check_length" P_check_length (S_check_length K)) : Gf P w K mg base 4 "changed" P_changed (S_changed K) := by
  refine D.gf 3 sc_changed (fun vs H Q E h => ?_) (fun _ _ _ _ _ _ us hl => match us, hl with | [_, _, _], _ => rfl) fun cdv A outer s H vs Q E hr h => ?_
  · obtain ⟨_, _, _, ha, _⟩ := h
    exact dpa_length ha
  · obtain ⟨r, p, l, ha, hz, hl1, hl2, hA⟩ := h
    obtain ⟨x, y, z, rfl, hx, hy, hz'⟩ := dpa3 ha
    cases hy
    cases hz'
    have hx' : Dp K H x (.tuple (r.map .int)) := hx
    simp only [editR] at hA
    refine bl_expr (w_callE (E := E) (L2N.takes_of rfl rfl rfl rfl) G hr (by rfl) (ds := [rowD r, .int p]) (by show EvA _ _ _ _ [.tuple (r.map .int), .int p]; walk_at "ea") fun vs H1 e1 hvs => ⟨r, p, hvs, fun hp H2 e2 => ?_, fun hn => by rw [if_neg hn] at hA; exact (hA _).ex e1⟩)
    rw [if_pos hp] at hA
    refine bl_expr (w_callE (E := E) (L2N.takes_of rfl rfl rfl rfl) G2 hr (by rfl) (ds := [.int l]) (by walk_at "ea") fun vs H3 e3 hvs => ⟨l, hvs, hl1, hl2, fun H4 e4 => ?_⟩)
    have e14 := e1.trans (e2.trans (e3.trans e4))
    have hx4 := dp_ex e14 hx'
    obtain ⟨n, rfl⟩ : ∃ n : Nat, p = n := ⟨p.toNat, by omega⟩
    refine bl_retD (d := .tuple ((r.map PyData.int).take n ++ (.int l :: ((r.map PyData.int).drop (n + 1) ++ [])))) (d_tup (a_starT (EvD.is (d := .tuple (D1.cutD (r.map PyData.int) none (some (n : Int)))) (by walk_at "ev") (by rw [cut_take])) (a_cons (by walk_at "ev") (a_starT (EvD.is (d := .tuple (D1.cutD (r.map PyData.int) (some ((n : Int) + 1)) none)) (by walk_at "ev") (by rw [show ((n : Int) + 1) = ((n + 1 : Nat) : Int) by omega, cut_drop])) a_nil))) (by simp; omega)) ?_ fun v H5 e5 hv => hA v H5 (e14.trans e5) hv
    rw [List.append_nil, rowD, List.map_append, List.map_cons, List.map_take, List.map_drop]
    rfl
def S_put_in (K : PySem.W.Frag) : Sp := fun vs H Q E => ∃ (r : List Int) (p l : Int), DpAll K H vs [rowD r, .int p, .int l] ∧ r.length ≤ 24 ∧ 1 ≤ l ∧ l ≤ 60 ∧ Ans K H Q E (editR r (.put p l))
theorem put_in_ok (D : Df K mg "put_in" s_put_in) (B : Bi mg) (Cc : Co mg) (C : Er K mg "NoPlace" "value") (C2 : Er K mg "TooMany" "limit") (G : Gf P w K mg base 1 "is_integer" P_is_integer (Spf K R_is_integer)) (G2 : Gf P w K mg base 3 "check_length" P_check_length (S_check_length K)) : Gf P w K mg base 4 "put_in" P_put_in (S_put_in K) := by
  refine D.gf 3 sc_put_in (fun vs H Q E h => ?_) (fun _ _ _ _ _ _ us hl => match us, hl with | [_, _, _], _ => rfl) fun cdv A outer s H vs Q E hr h => ?_
  · obtain ⟨_, _, _, ha, _⟩ := h
    exact dpa_length ha
  · obtain ⟨r, p, l, ha, hz, hl1, hl2, hA⟩ := h
    obtain ⟨x, y, z, rfl, hx, hy, hz'⟩ := dpa3 ha
    cases hy
    cases hz'
    have hx' : Dp K H x (.tuple (r.map .int)) := hx
    have hW := Cc.words
    simp only [editR] at hA
    refine bl_when (k := !intIn (.int p) 0 ((r.map PyData.int).length : Nat)) (b_not (b_val (d_call G (hr.mono (by decide)) (by rfl) (ds := [.int p, .int 0, .int ((r.map PyData.int).length : Nat)]) (by walk_at "ea") ⟨_, _, _, rfl, .inr ⟨p, rfl⟩, rfl⟩))) (fun hk H1 e1 => ?_) fun hk H1 e1 => ?_
    · have hn : ¬ (0 ≤ p ∧ p ≤ r.length) := fun z => by
        simp only [intIn, List.length_map, Bool.not_eq_true', Bool.and_eq_false_iff, decide_eq_false_iff_not] at hk
        omega
      rw [if_neg hn] at hA
      exact bl_raise1 (E := E) (L2N.takes_of rfl rfl rfl rfl) rfl C hr (by rfl) (by walk_at "ev") ((hA (.int p)).ex e1)
    have hp : 0 ≤ p ∧ p ≤ r.length := by
      simp only [intIn, List.length_map, Bool.not_eq_false', Bool.and_eq_true, decide_eq_true_eq] at hk
      omega
    rw [if_pos hp] at hA
    refine bl_expr (w_callE (E := E) (L2N.takes_of rfl rfl rfl rfl) G2 hr (by rfl) (ds := [.int l]) (by walk_at "ea") fun vs H3 e3 hvs => ⟨l, hvs, hl1, hl2, fun H4 e4 => ?_⟩)
    have e14 := e1.trans (e3.trans e4)
    have hx4 := dp_ex e14 hx'
    refine bl_when (k := (((r.map PyData.int).length : Nat) : Int) == 24) (b_eqI (by walk_at "ev") (by walk_at "ev")) (fun hk H5 e5 => ?_) fun hk H5 e5 => ?_
    · have hl24 : r.length = 24 := by
        have := eq_of_beq hk
        rw [List.length_map] at this
        omega
      rw [if_pos hl24] at hA
      exact bl_raise1 (E := E) (L2N.takes_of rfl rfl rfl rfl) rfl C2 hr (by rfl) (dv := .int 24) (by walk_at "ev") ((hA (.int 24)).ex (e14.trans e5))
    have hl24 : ¬ r.length = 24 := fun z => by
      rw [List.length_map, z] at hk
      cases hk
    rw [if_neg hl24] at hA
    have hx5 := dp_ex e5 hx4
    obtain ⟨n, rfl⟩ : ∃ n : Nat, p = n := ⟨p.toNat, by omega⟩
    refine bl_retD (d := .tuple ((r.map PyData.int).take n ++ (.int l :: ((r.map PyData.int).drop n ++ [])))) (d_tup (a_starT (EvD.is (d := .tuple (D1.cutD (r.map PyData.int) none (some (n : Int)))) (by walk_at "ev") (by rw [cut_take])) (a_cons (by walk_at "ev") (a_starT (EvD.is (d := .tuple (D1.cutD (r.map PyData.int) (some (n : Int)) none)) (by walk_at "ev") (by rw [cut_drop])) a_nil))) (by simp; omega)) ?_ fun v H6 e6 hv => hA v H6 (e14.trans (e5.trans e6)) hv
    rw [List.append_nil, rowD, List.map_append, List.map_cons, List.map_take, List.map_drop]
    rfl
def S_taken_out (K : PySem.W.Frag) : Sp := fun vs H Q E => ∃ (r : List Int) (p : Int), DpAll K H vs [rowD r, .int p] ∧ r.length ≤ 24 ∧ Ans K H Q E (editR r (.cut p))
theorem taken_out_ok (D : Df K mg "taken_out" s_taken_out) (B : Bi mg) (C : Er0 K mg "LastWord") (G : Gf P w K mg base 3 "check_place" P_check_place (S_check_place K)) : Gf P w K mg base 4 "taken_out" P_taken_out (S_taken_out K) := by
  refine D.gf 3 sc_taken_out (fun vs H Q E h => ?_) (fun _ _ _ _ _ _ us hl => match us, hl with | [_, _], _ => rfl) fun cdv A outer s H vs Q E hr h => ?_
  · obtain ⟨_, _, ha, _⟩ := h
    exact dpa_length ha
  · obtain ⟨r, p, ha, hz, hA⟩ := h
    obtain ⟨x, y, rfl, hx, hy⟩ := dpa2 ha
    cases hy
    have hx' : Dp K H x (.tuple (r.map .int)) := hx
    simp only [editR] at hA
    refine bl_expr (w_callE (E := E) (L2N.takes_of rfl rfl rfl rfl) G hr (by rfl) (ds := [rowD r, .int p]) (by show EvA _ _ _ _ [.tuple (r.map .int), .int p]; walk_at "ea") fun vs H1 e1 hvs => ⟨r, p, hvs, fun hp H2 e2 => ?_, fun hn => by rw [if_neg hn] at hA; exact (hA _).ex e1⟩)
    rw [if_pos hp] at hA
    have e12 := e1.trans e2
    have hx2 := dp_ex e12 hx'
    refine bl_when (k := (((r.map PyData.int).length : Nat) : Int) == 1) (b_eqI (by walk_at "ev") (by walk_at "ev")) (fun hk H5 e5 => ?_) fun hk H5 e5 => ?_
    · have hl24 : r.length = 1 := by
        have := eq_of_beq hk
        rw [List.length_map] at this
        omega
      rw [if_pos hl24] at hA
      exact bl_raise0 (E := E) (L2N.takes_of rfl rfl rfl rfl) rfl C (by rfl) (Rs0.ex hA (e12.trans e5))
    have hl24 : ¬ r.length = 1 := fun z => by
      rw [List.length_map, z] at hk
      cases hk
    rw [if_neg hl24] at hA
    have hx5 := dp_ex e5 hx2
    obtain ⟨n, rfl⟩ : ∃ n : Nat, p = n := ⟨p.toNat, by omega⟩
    refine bl_retD (d := .tuple ((r.map PyData.int).take n ++ (r.map PyData.int).drop (n + 1))) (d_addT (EvD.is (d := .tuple (D1.cutD (r.map PyData.int) none (some (n : Int)))) (by walk_at "ev") (by rw [cut_take])) (EvD.is (d := .tuple (D1.cutD (r.map PyData.int) (some ((n : Int) + 1)) none)) (by walk_at "ev") (by rw [show ((n : Int) + 1) = ((n + 1 : Nat) : Int) by omega, cut_drop])) (by simp; omega)) ?_ fun v H6 e6 hv => hA v H6 (e12.trans (e5.trans e6)) hv
    rw [rowD, List.map_append, List.map_take, List.map_drop]
    rfl
end
end TX
end
section
namespace TX
open PySem PySem.Spec PyProof.Rows L2 Evl W1 D1 MM
section
variable {P : Program} {w : World} {K : PySem.W.Frag} {mg : Str → Option Value} {base : Heap}
section
variable {X : Cx} {e : Expr} {rest : List Stmt} {σ : L2.St} {H : Hp} {D : Ends} {pos p1 p2 p3 p4 : Pos} {x y : Str} {d : PyData} {ds : List PyData} {i j k : Nat}
/-- x, *y = e -/
theorem bl_starT (hc : X.calm = true) (hN : X.N.Nodup) (hi : X.N[i]? = some x) (hj : X.N[j]? = some y) (hx : X.env.scope.names.lookup x = some .local) (hy : X.env.scope.names.lookup y = some .local) (h : EvD X e σ H (.tuple (d :: ds))) (hz : ds.length ≤ 1000)
    (kk : ∀ v p xs H1, Ex H H1 → Dp X.K H1 v d → H p = none → H1 p = some (.lst xs) → DpAll X.K H1 xs ds → BlX X rest ((σ.set i (some v)).set j (some (.ref p))) H1 D)
    (hs : swapsWithSole [.Tuple [.Name x p1, .Starred (.Name y p2) p3] k p4] e pos.line X.env = pure false := by rfl) (hw : swappedStores [.Tuple [.Name x p1, .Starred (.Name y p2) p3] k p4] e X.env = pure none := by rfl) :
    BlX X (.Assign [.Tuple [.Name x p1, .Starred (.Name y p2) p3] k p4] e pos :: rest) σ H D := by
  refine bl_st (ps_asg pp (pg_star hc (pgs_cons (pg_name (i := i) hN hi (.inl hx) (.inr hx)) (pgs_starred (pg_name (i := j) hN hj (.inl hy) (.inr hy))))) hs hw) ?_
  refine h.go fun v H1 e1 hv => ?_
  obtain ⟨a, xs, rfl, ha, hxs⟩ := dp_tup hv
  cases hxs with
  | cons hv hvs =>
    rename_i v1 vs1
    have hl := dpa_length hvs
    refine ⟨a, v1, vs1, rfl, .inr ha, by omega, fun p hp => ⟨v1, [.ref p], rfl, .ref p, [], rfl, rfl, ?_⟩⟩
    have e2 : Ex H1 (upd H1 p (.lst vs1)) := Ex.new hp
    exact kk v1 p vs1 _ (e1.trans e2) (dp_ex e2 hv) (fresh_back e1 hp) upd_same (dpa_ex e2 hvs)
theorem bl_starL (hc : X.calm = true) (hN : X.N.Nodup) (hi : X.N[i]? = some x) (hj : X.N[j]? = some y) (hx : X.env.scope.names.lookup x = some .local) (hy : X.env.scope.names.lookup y = some .local) (h : EvD X e σ H (.list (d :: ds))) (hz : ds.length ≤ 1000)
    (kk : ∀ v p xs H1, Ex H H1 → Dp X.K H1 v d → H p = none → H1 p = some (.lst xs) → DpAll X.K H1 xs ds → BlX X rest ((σ.set i (some v)).set j (some (.ref p))) H1 D)
    (hs : swapsWithSole [.Tuple [.Name x p1, .Starred (.Name y p2) p3] k p4] e pos.line X.env = pure false := by rfl) (hw : swappedStores [.Tuple [.Name x p1, .Starred (.Name y p2) p3] k p4] e X.env = pure none := by rfl) :
    BlX X (.Assign [.Tuple [.Name x p1, .Starred (.Name y p2) p3] k p4] e pos :: rest) σ H D := by
  refine bl_st (ps_asg pp (pg_star hc (pgs_cons (pg_name (i := i) hN hi (.inl hx) (.inr hx)) (pgs_starred (pg_name (i := j) hN hj (.inl hy) (.inr hy))))) hs hw) ?_
  refine h.go fun v H1 e1 hv => ?_
  obtain ⟨a, xs, rfl, ha, hxs⟩ := dp_lst hv
  cases hxs with
  | cons hv hvs =>
    rename_i v1 vs1
    have hl := dpa_length hvs
    refine ⟨a, v1, vs1, rfl, .inl ha, by omega, fun p hp => ⟨v1, [.ref p], rfl, .ref p, [], rfl, rfl, ?_⟩⟩
    have e2 : Ex H1 (upd H1 p (.lst vs1)) := Ex.new hp
    exact kk v1 p vs1 _ (e1.trans e2) (dp_ex e2 hv) (fresh_back e1 hp) upd_same (dpa_ex e2 hvs)
end
def Edit.name : Edit → Str
  | .put _ _ => "put" | .cut _ => "cut" | .resize _ _ => "resize" | .turn => "turn" | .undo => "undo"
def Edit.args : Edit → List PyData
  | .put p l => [.int p, .int l]
  | .cut p => [.int p]
  | .resize p l => [.int p, .int l]
  | .turn => []
  | .undo => []
theorem parts_eq (e : Edit) : e.parts = .str (Edit.name e) :: Edit.args e := by cases e <;> rfl
def S_edited (K : PySem.W.Frag) : Sp := fun vs H Q E => ∃ (r : List Int) (e : Edit), DpAll K H vs [rowD r, edD e] ∧ RowOk r ∧ e.fit ∧ Ans K H Q E (editR r e)
theorem edited_ok (D : Df K mg "edited" s_edited) (G : Gf P w K mg base 4 "put_in" P_put_in (S_put_in K)) (G2 : Gf P w K mg base 4 "changed" P_changed (S_changed K)) (G3 : Gf P w K mg base 4 "taken_out" P_taken_out (S_taken_out K)) : Gf P w K mg base 5 "edited" P_edited (S_edited K) := by
  refine D.gf 4 sc_edited (fun vs H Q E h => ?_) (fun _ _ _ _ _ _ us hl => match us, hl with | [_, _], _ => rfl) fun cdv A outer s H vs Q E hr h => ?_
  · obtain ⟨_, _, ha, _⟩ := h
    exact dpa_length ha
  · obtain ⟨r, e, ha, hrow, hfit, hA⟩ := h
    obtain ⟨x, y, rfl, hx, hy⟩ := dpa2 ha
    have hx' : Dp K H x (.tuple (r.map .int)) := hx
    have hy' : Dp K H y (.tuple (.str (Edit.name e) :: Edit.args e)) := by rw [← parts_eq]; exact hy
    have hz := hrow.few
    refine bl_starT (i := 2) (j := 3) rfl sc_edited.nd rfl rfl rfl rfl (d := .str (Edit.name e)) (ds := Edit.args e) (by walk_at "var") (by cases e <;> simp [Edit.args]) fun v p xs H1 e1 hv hp0 hp1 hxs => ?_
    cases hv
    have hx1 := dp_ex e1 hx'
    have hA := hA.ex e1
    have hp : Dp K H1 (.ref p) (.list (Edit.args e)) := .lst (sq_of hp1) hxs
    refine bl_when (k := Edit.name e == "put") (b_eqS (by walk_at "var") d_str) (fun hk H2 e2 => ?_) fun hk H2 e2 => ?_
    · cases e with
      | put p l =>
        have hp' : Dp K H2 (.ref _) (.list [.int p, .int l]) := dp_ex e2 hp
        have hx2 := dp_ex e2 hx1
        exact bl_ret (w_callE (E := E) (L2N.takes_of rfl rfl rfl rfl) G hr (by rfl) (ds := [rowD r, .int p, .int l]) (by show EvA _ _ _ _ [.tuple (r.map .int), .int p, .int l]; exact a_cons (by walk_at "ev") (a_cons (d_ixL (d := .int p) (by walk_at "var") d_int rfl) (a_cons (d_ixL (d := .int l) (by walk_at "var") d_int rfl) a_nil))) fun vs H3 e3 hvs => ⟨r, p, l, hvs, hz, hfit.2.1, hfit.2.2, hA.ex (e2.trans e3)⟩)
      | _ => exact nomatch (show false = true from hk)
    refine bl_when (k := Edit.name e == "resize") (b_eqS (by walk_at "var") d_str) (fun hk H3 e3 => ?_) fun hk2 H3 e3 => ?_
    · cases e with
      | resize p l =>
        have hp' : Dp K H3 (.ref _) (.list [.int p, .int l]) := dp_ex (e2.trans e3) hp
        have hx2 := dp_ex (e2.trans e3) hx1
        exact bl_ret (w_callE (E := E) (L2N.takes_of rfl rfl rfl rfl) G2 hr (by rfl) (ds := [rowD r, .int p, .int l]) (by show EvA _ _ _ _ [.tuple (r.map .int), .int p, .int l]; exact a_cons (by walk_at "ev") (a_cons (d_ixL (d := .int p) (by walk_at "var") d_int rfl) (a_cons (d_ixL (d := .int l) (by walk_at "var") d_int rfl) a_nil))) fun vs H4 e4 hvs => ⟨r, p, l, hvs, hz, hfit.2.1, hfit.2.2, hA.ex (e2.trans (e3.trans e4))⟩)
      | _ => exact nomatch (show false = true from hk)
    have hx3 := dp_ex (e2.trans e3) hx1
    cases e with
    | put p l => exact nomatch (show true = false from hk)
    | resize p l => exact nomatch (show true = false from hk2)
    | undo => exact hfit.elim
    | cut p =>
      have hp' : Dp K H3 (.ref _) (.list [.int p]) := dp_ex (e2.trans e3) hp
      refine bl_ret ?_
      refine .of (pe_ifExp tt pp pp) ?_
      refine EvB.go (b := (("cut" : Str) == "cut")) (b_eqS (i := "cut") (j := "cut") (by walk_at "var") d_str) fun H5 e5 => ?_
      have hp5 := dp_ex e5 hp'
      have hx5 := dp_ex e5 hx3
      exact w_callE (E := E) (L2N.takes_of rfl rfl rfl rfl) G3 hr (by rfl) (ds := [rowD r, .int p]) (by show EvA _ _ _ _ [.tuple (r.map .int), .int p]; exact a_cons (by walk_at "ev") (a_cons (d_ixL (d := .int p) (by walk_at "var") d_int rfl) a_nil)) fun vs H4 e4 hvs => ⟨r, p, hvs, hz, hA.ex (e2.trans (e3.trans (e5.trans e4)))⟩
    | turn =>
      refine bl_retD (d := .tuple ((r.map PyData.int).reverse)) (d_if (k := (("turn" : Str) == "cut")) (b_eqS (i := "turn") (j := "cut") (by walk_at "var") d_str) (fun h => absurd h (by decide)) fun _ => d_revT (by walk_at "var")) (by rw [← List.map_reverse]; rfl) fun v H4 e4 hv => hA v H4 (e2.trans (e3.trans e4)) hv
end
end TX
end
section
namespace TX
open PySem PySem.Spec PyProof.Rows L2 Evl W1 D1 MM
/-- the dict x of the module: texts to ints -/
structure TabN (K : PySem.W.Frag) (w : World) (mg : Str → Option Value) (x : Str) (t : List (Str × Int)) (no : List Str) : Prop where
  m : mg x = some (.ref (He.ga K x))
  kd : ∃ es n, KDict K w (He.ga K x) es n
  has : ∀ q ∈ t, ∃ tk, PySem.W.nsIn K (He.ga K x) q.1 = some (some (.int q.2 tk))
  not : ∀ z ∈ no, PySem.W.nsIn K (He.ga K x) z = some none
section
variable {X : Cx} {a : Expr} {σ : L2.St} {H : Hp} {pos p : Pos} {x : Str} {t : List (Str × Int)} {no : List Str} {z : Str} {i : Int}
theorem v_glob {v : V} {u : Value} (hg : Gl X x) (hm : X.mg x = some u) (r : RelV v u) (h1 : (x == ("__debug__" : Str)) = false := by decide) : EvP X (.Name x pos) σ H fun y _ => y = v :=
  .of (pe_glob hg hm r h1) fun H1 _ Q q => q v H1 (Ex.refl H1) rfl
theorem b_inTab (T : TabN X.K X.w X.mg x t no) (hg : Gl X x) (ha : EvD X a σ H (.str z)) (hz : (z, i) ∈ t) (h1 : (x == ("__debug__" : Str)) = false := by decide) (hm : behindInMarks .In (.Name x p) = false := by rfl) : EvB X (.Compare a [.In] [.Name x p] pos) σ H true := by
  obtain ⟨es, n, kd⟩ := T.kd
  obtain ⟨tk, h⟩ := T.has _ hz
  exact .of (pt_cmpR (op_in_kd kd) pp pp hm) fun H1 e1 Q q => ha.run H1 e1 _ fun v H2 e2 hv => (v_glob hg T.m (v := .ref (He.ga X.K x)) rfl h1).run H2 (e1.trans e2) _ fun u H3 e3 hu => ⟨z, _, dp_str hv, hu, h, true, rfl, q H3 (e2.trans e3)⟩
theorem d_inTab (T : TabN X.K X.w X.mg x t no) (hg : Gl X x) (ha : EvD X a σ H (.str z)) (hz : (z, i) ∈ t) (h1 : (x == ("__debug__" : Str)) = false := by decide) (hm : behindInMarks .In (.Name x p) = false := by rfl) : EvD X (.Compare a [.In] [.Name x p] pos) σ H (.bool true) := by
  obtain ⟨es, n, kd⟩ := T.kd
  obtain ⟨tk, h⟩ := T.has _ hz
  exact .of (pe_cmpR (op_in_kd kd) pp pp hm) fun H1 e1 Q q => ha.run H1 e1 _ fun v H2 e2 hv => (v_glob hg T.m (v := .ref (He.ga X.K x)) rfl h1).run H2 (e1.trans e2) _ fun u H3 e3 hu => ⟨z, _, dp_str hv, hu, h, q _ H3 (e2.trans e3) (.bl _)⟩
theorem b_notInTab (T : TabN X.K X.w X.mg x t no) (hg : Gl X x) (ha : EvD X a σ H (.str z)) (hz : (z, i) ∈ t) (h1 : (x == ("__debug__" : Str)) = false := by decide) (hm : behindInMarks .NotIn (.Name x p) = false := by rfl) : EvB X (.Compare a [.NotIn] [.Name x p] pos) σ H false := by
  obtain ⟨es, n, kd⟩ := T.kd
  obtain ⟨tk, h⟩ := T.has _ hz
  exact .of (pt_cmpR (op_notIn_kd kd) pp pp hm) fun H1 e1 Q q => ha.run H1 e1 _ fun v H2 e2 hv => (v_glob hg T.m (v := .ref (He.ga X.K x)) rfl h1).run H2 (e1.trans e2) _ fun u H3 e3 hu => ⟨z, _, dp_str hv, hu, h, false, rfl, q H3 (e2.trans e3)⟩
theorem b_notInTab2 (T : TabN X.K X.w X.mg x t no) (hg : Gl X x) (ha : EvD X a σ H (.str z)) (hz : z ∈ no) (h1 : (x == ("__debug__" : Str)) = false := by decide) (hm : behindInMarks .NotIn (.Name x p) = false := by rfl) : EvB X (.Compare a [.NotIn] [.Name x p] pos) σ H true := by
  obtain ⟨es, n, kd⟩ := T.kd
  have h := T.not _ hz
  exact .of (pt_cmpR (op_notIn_kd kd) pp pp hm) fun H1 e1 Q q => ha.run H1 e1 _ fun v H2 e2 hv => (v_glob hg T.m (v := .ref (He.ga X.K x)) rfl h1).run H2 (e1.trans e2) _ fun u H3 e3 hu => ⟨z, _, dp_str hv, hu, h, true, rfl, q H3 (e2.trans e3)⟩
theorem d_ixTab (T : TabN X.K X.w X.mg x t no) (hg : Gl X x) (ha : EvD X a σ H (.str z)) (hz : (z, i) ∈ t) (h1 : (x == ("__debug__" : Str)) = false := by decide) (hs : PlainIx a := by intro _ _; rfl) : EvD X (.Subscript (.Name x p) a pos) σ H (.int i) := by
  obtain ⟨es, n, kd⟩ := T.kd
  obtain ⟨tk, h⟩ := T.has _ hz
  exact .of (pe_ix ix_kdict pp pp hs) fun H1 e1 Q q => (v_glob hg T.m (v := .ref (He.ga X.K x)) rfl h1).run H1 e1 _ fun u H2 e2 hu => ha.run H2 (e1.trans e2) _ fun v H3 e3 hv => ⟨_, z, .int i, hu, dp_str hv, ⟨es, n, _, kd.at_, kd.lit, h, ⟨tk, rfl⟩⟩, q _ H3 (e2.trans e3) (.int i)⟩
end
section
variable {P : Program} {w : World} {K : PySem.W.Frag} {mg : Str → Option Value} {base : Heap}
theorem shaped_edit (e : Edit) : SeqAt.shaped (edD e) = true := by
  have a : PyData.strOk "put" = true := by decide +kernel
  have b : PyData.strOk "cut" = true := by decide +kernel
  have c : PyData.strOk "resize" = true := by decide +kernel
  have d : PyData.strOk "turn" = true := by decide +kernel
  have f : PyData.strOk "undo" = true := by decide +kernel
  show (PyData.canLay0 (edD e) && decide (PyData.depth (edD e) ≤ 64)) = true
  cases e <;> simp [edD, Edit.parts, PyData.canLay0, PyData.canLayAll0, PyData.depth, PyData.depthAll, a, b, c, d, f]
theorem shaped_tnil : SeqAt.shaped (.tuple []) = true := shaped_row []
theorem eqv_edit (e : Edit) : PyData.eqv (edD e) (.tuple []) = false := by
  cases e <;> simp [edD, Edit.parts, PyData.eqv, PyData.eqvAll]
def R_is_edit : List PyData → PyData → Prop := fun ds r => ∃ e : Edit, ds = [edD e] ∧ e.fit ∧ r = .bool true
theorem edit_size {e : Edit} (h : e.fit) : (Edit.name e, (e.parts.length : Int)) ∈ sizesT := by
  cases e with
  | put p l => exact .tail _ (.head _)
  | cut p => exact .head _
  | resize p l => exact .tail _ (.tail _ (.head _))
  | turn => exact .tail _ (.tail _ (.tail _ (.head _)))
  | undo => exact h.elim
theorem is_edit_ok (D : Df K mg "is_edit" s_is_edit) (B : Bi mg) (T : TabN K w mg "SIZES" sizesT []) : Gf P w K mg base 1 "is_edit" P_is_edit (Spf K R_is_edit) := by
  refine D.gf 0 sc_is_edit (Spf_len (n := 1) fun ds r h => ?_) (fun _ _ _ _ _ _ us hl => match us, hl with | [_], _ => rfl) fun cdv A outer s H vs Q E hr h => ?_
  · obtain ⟨_, rfl, _⟩ := h
    rfl
  · obtain ⟨ds, r, ⟨e, rfl, hfit, rfl⟩, ha, hQ⟩ := h
    obtain ⟨x, rfl, hx⟩ := dpa1 ha
    have hx' : Dp K H x (.tuple e.parts) := hx
    have hz := edit_size hfit
    have h0 : atI e.parts 0 = some (.str (Edit.name e)) := by cases e <;> rfl
    refine bl_when (k := !true || (false || !true)) (EvW.tob (w_or (b_not (b_val (i_tuple (by rfl) (by rfl) B (x_var 0 rfl (.inl rfl) rfl hx' rfl rfl) (by walk_at "kit") rfl rfl rfl))) fun _ => w_or (EvB.is (b_eq (d1 := .tuple e.parts) (d2 := .tuple []) (r64 hr) (x_var 0 rfl (.inl rfl) rfl hx' rfl rfl) (d_tup a_nil (by decide)) (shaped_edit e) shaped_tnil) (eqv_edit e)) fun _ => w_or1 (b_not (b_val (i_str (by rfl) (by rfl) B (d_ixT (ds := e.parts) (x_var 0 rfl (.inl rfl) rfl hx' rfl rfl) d_int h0) (by walk_at "kit") rfl rfl rfl))))) (fun hk => by cases hk) fun _ H1 e1 => ?_
    have hx1 : Dp K H1 x (.tuple e.parts) := dp_ex e1 hx'
    refine bl_retD (d := .bool (true && ((e.parts.length : Int) == (e.parts.length : Int)))) (d_and (d_inTab T (by rfl) (d_ixT (ds := e.parts) (x_var 0 rfl (.inl rfl) rfl hx1 rfl rfl) d_int h0) hz) fun _ => d_one (d_cmp op_eq (x_lenT (by rfl) B (x_var 0 rfl (.inl rfl) rfl hx1 rfl rfl) rfl) (d_ixTab T (by rfl) (d_ixT (ds := e.parts) (x_var 0 rfl (.inl rfl) rfl hx1 rfl rfl) d_int h0) hz) (nomark _) ?_)) (by rw [beq_self_eq_true]; rfl) fun v H2 e2 hv => hQ v H2 (e1.trans e2) hv
    intro u v H2 e2 hu hv Q q
    cases hu; cases hv
    exact ⟨rfl, by rw [dec_int]; exact q _ H2 (Ex.refl H2) (.bl _)⟩
end
end TX
end
section
namespace TX
open PySem PySem.Spec PyProof.Rows L2 Evl W1 D1 MM HotX L2H
/-! ### within except suites: the caught error -/
def NameC (mg : Str → Option Value) (x : Str) (c : Value) : Prop := (∃ a, mg x = some (.ref a) ∧ c = .ref a) ∨ (∃ T, mg x = none ∧ bootBuiltins x = some (.type T) ∧ c = .type T)
/-- the field of the class -/
structure ErC (K : PySem.W.Frag) (mg : Str → Option Value) (b : Bad) : Prop where
  exd : ExcD K (Bad.adr K b)
  kit : ∀ x ∈ errNames, ∃ c, NameC mg x c ∧ PySem.W.kitOne K (.ref (Bad.adr K b)) c = some (Bad.isA b x)
  noF : ∀ f, Bad.field b = some f → PySem.W.findIn K (.ref (Bad.adr K b)) f = some none
/-- the exception as it was raised -/
def ErrAt (K : PySem.W.Frag) (H : Hp) (cls : Value) (d : Option Addr) (b : Bad) : Prop :=
  cls = .ref (Bad.adr K b) ∧ match Bad.field b with
    | none => d = none
    | some f => ∃ dd v dv, d = some dd ∧ H dd = some (.xd [(f, v)]) ∧ Dp K H v dv
theorem ErrAt.ex {K : PySem.W.Frag} {H H' : Hp} {cls : Value} {d : Option Addr} {b : Bad} (h : ErrAt K H cls d b) (e : Ex H H') : ErrAt K H' cls d b := by
  refine ⟨h.1, ?_⟩
  have h2 := h.2
  cases hf : Bad.field b with
  | none => rw [hf] at h2; exact h2
  | some f =>
    rw [hf] at h2
    obtain ⟨dd, v, dv, h3, h4, h5⟩ := h2
    exact ⟨dd, v, dv, h3, e _ _ h4, dp_ex e h5⟩
theorem ErrAt.dok {K : PySem.W.Frag} {H : Hp} {cls : Value} {d : Option Addr} {b : Bad} (h : ErrAt K H cls d b) : DOk d H := by
  intro dd hdd
  have h2 := h.2
  cases hf : Bad.field b with
  | none => rw [hf] at h2; rw [h2] at hdd; cases hdd
  | some f =>
    rw [hf] at h2
    obtain ⟨dd', v, dv, h3, h4, h5⟩ := h2
    rw [h3] at hdd
    cases hdd
    exact ⟨_, h4⟩
/-- every bad end, as data for a handler -/
theorem RsB.of {K : PySem.W.Frag} {H : Hp} {E : XK} (b : Bad) (h : ∀ cls d H', Ex H H' → ErrAt K H' cls d b → E cls d H') : RsB K H E b := by
  cases b <;> first
    | exact fun dv dd v H' e hd hv => h _ _ H' e ⟨rfl, dd, v, dv, rfl, hd, hv⟩
    | exact fun H' e => h _ _ H' e ⟨rfl, rfl⟩
section
variable {X : Cx} {e : Expr} {σ : L2.St} {H : Hp} {pos p p2 : Pos} {x : Str} {a : Addr} {oe : Obj} {cls : Value} {d : Option Addr} {b : Bad}
theorem i_exc (hP : HotP X a oe cls d) (C : ErC X.K X.mg b) (B : Bi X.mg) (hE : ErrAt X.K H cls d b) (hg : Gl X "isinstance") (hgx : Gl X x) (ha : EvP X e σ H fun v _ => v = .ref a) (hx : x ∈ errNames)
    (he : starEach [e, .Name x p] X.env = (false, eval e X.env) :: starEach [.Name x p] X.env) (he2 : starEach [.Name x p] X.env = (false, eval (.Name x p) X.env) :: starEach [] X.env) (hpl : (backTo pos (starEach [.Name x p] X.env)).any (·.1) = false)
    (hn : x ≠ "__name__") (hdb : (x == ("__debug__" : Str)) = false) : EvD X (.Call (.Name "isinstance" p2) [e, .Name x p] [] pos) σ H (.bool (Bad.isA b x)) := by
  obtain ⟨rfl, _⟩ := id hE
  obtain ⟨c, hc, hk⟩ := C.kit x hx
  have key : ∀ (cv : V), (∀ z, RelV cv z → z = c) → PE X (.Name x p) (tC cv) → EvD X (.Call (.Name "isinstance" p2) [e, .Name x p] [] pos) σ H (.bool (Bad.isA b x)) := fun cv hcv hpe =>
    .of (pe_callB (call_isE1 hP C.exd) hg B.isinstance boot_isinstance (pa_cons pp (pa_cons hpe pa_nil he2) he) (he := he) (hpl := hpl)) fun H1 e1 Q q => ha.run H1 e1 _ fun v H2 e2 hv => ⟨cv, c, _, by rw [hv], hcv, (hE.ex (e1.trans e2)).dok, hk, q _ H2 e2 (.bl _)⟩
  rcases hc with ⟨f, hm, rfl⟩ | ⟨T, hm, hb, rfl⟩
  · exact key (.ref f) (fun z hz => hz) (pe_glob hgx hm rfl hdb)
  · exact key (.ty T) (fun z hz => hz) (pe_bltn hgx hm hb (v := .ty T) rfl hn hdb)
end
/-! lists that stay -/
abbrev EvL (X : Cx) (e : Expr) (σ : L2.St) (H : Hp) (ds : List PyData) : Prop := EvP X e σ H fun v H' => ∃ a xs, v = .ref a ∧ H' a = some (.lst xs) ∧ DpAll X.K H' xs ds
section
variable {X : Cx} {a e : Expr} {σ : L2.St} {H : Hp} {pos p p2 apos : Pos} {x : Str} {ds fs : List PyData} {bs : List Bool}
theorem l_var {l : Addr} {xs : List V} (i : Nat) (hi : X.N[i]? = some x) (hv : Vis X.env.scope x) (hs : σ[i]? = some (some (.ref l))) (hl : H l = some (.lst xs)) (hd : DpAll X.K H xs ds) (h1 : (x == ("__debug__" : Str)) = false := by decide) (h2 : (x == ("__classdict__" : Str)) = false := by decide) : EvL X (.Name x pos) σ H ds :=
  .of (pe_var (i := i) hi hv h1 h2) fun H1 e1 Q q => ⟨_, hs, q _ H1 (Ex.refl H1) ⟨l, xs, rfl, e1 _ _ hl, dpa_ex e1 hd⟩⟩
theorem n_catL (ha : EvL X a σ H ds) (hb : EvN X e σ H fs) (hl : ds.length + fs.length ≤ 100000) : EvN X (.BinOp a .Add e pos) σ H (ds ++ fs) :=
  .of (pe_op op_cat pp pp) fun H1 e1 Q q => ha.run H1 e1 _ fun u H2 e2 ⟨l, xs, hu, hl1, hxs⟩ => hb.run H2 (e1.trans e2) _ fun v H3 e3 ⟨m, ys, hv, hn, hl2, hys⟩ =>
    ⟨l, m, xs, ys, hu, hv, e3 _ _ hl1, hl2, szl (by rw [dpa_length hxs, dpa_length hys]; exact hl), fun t ht => q _ _ (e2.trans (e3.trans (Ex.new ht))) ⟨t, _, rfl, fresh_back (e1.trans (e2.trans e3)) ht, upd_same, dpa_ex (Ex.new ht) (dpa_append (dpa_ex e3 hxs) hys)⟩⟩
/-- l.count(True) -/
theorem d_countB {j : Nat} {p3 : Pos} (ha : EvD X a σ H (.list (bs.map .bool))) (hb : attributeBase a "count" X.env (eval a X.env) = eval a X.env := by rfl) (hln : (apos.endLine == pos.line) = true := by rfl) (hfew : (((backTo pos (starEach [.Constant (.bool true) j p3] X.env)).all fun x => !x.1) && (backToKw pos (keywordEach [] X.env)).all (fun x => x.1.isSome) && decide (([.Constant (.bool true) j p3] : List Expr).length + ([] : List Keyword).length + (if ([] : List Keyword).isEmpty then 0 else 1) < 30)) = true := by rfl)
    (hst : starEach (.Constant (.bool true) j p3 :: []) X.env = (false, eval (.Constant (.bool true) j p3) X.env) :: starEach [] X.env := by rfl) : EvD X (.Call (.Attribute a "count" apos) [.Constant (.bool true) j p3] [] pos) σ H (.int (bs.countP id : Nat)) :=
  .of (pe_bm PySem.F.plainAttrs_list PySem.F.slot_list_count PySem.F.type_list_count mt_countB pp (pa_cons pp pa_nil hst) hb hfew hln hst) fun H1 e1 Q q => ha.run H1 e1 _ fun v H2 e2 hv => by
    obtain ⟨l, xs, rfl, hl, hxs⟩ := dp_lst hv
    refine ⟨.inl ⟨rfl, xs, hl⟩, .of pe_bl ?_⟩
    exact ⟨l, bs, rfl, rfl, by rw [← dpa_bools hxs]; exact hl, q _ H2 e2 (.int _)⟩
theorem d_indexB {j n : Nat} {p3 : Pos} (ha : EvD X a σ H (.list (bs.map .bool))) (hi : bs[n]? = some true) (hno : ∀ m, m < n → bs[m]? = some false) (hb : attributeBase a "index" X.env (eval a X.env) = eval a X.env := by rfl) (hln : (apos.endLine == pos.line) = true := by rfl) (hfew : (((backTo pos (starEach [.Constant (.bool true) j p3] X.env)).all fun x => !x.1) && (backToKw pos (keywordEach [] X.env)).all (fun x => x.1.isSome) && decide (([.Constant (.bool true) j p3] : List Expr).length + ([] : List Keyword).length + (if ([] : List Keyword).isEmpty then 0 else 1) < 30)) = true := by rfl)
    (hst : starEach (.Constant (.bool true) j p3 :: []) X.env = (false, eval (.Constant (.bool true) j p3) X.env) :: starEach [] X.env := by rfl) : EvD X (.Call (.Attribute a "index" apos) [.Constant (.bool true) j p3] [] pos) σ H (.int (n : Nat)) :=
  .of (pe_bm PySem.F.plainAttrs_list PySem.F.slot_list_index PySem.F.type_list_index mt_index pp (pa_cons pp pa_nil hst) hb hfew hln hst) fun H1 e1 Q q => ha.run H1 e1 _ fun v H2 e2 hv => by
    obtain ⟨l, xs, rfl, hl, hxs⟩ := dp_lst hv
    have ex := dpa_bools hxs
    refine ⟨.inl ⟨rfl, xs, hl⟩, .of pe_bl ?_⟩
    refine ⟨l, xs, .bl true, n, .bl true, rfl, rfl, hl, rfl, ?_, ?_, rfl, ?_, q _ H2 e2 (.int _)⟩
    · rw [ex, List.all_map, List.all_eq_true]
      intro _ _
      rfl
    · rw [ex, List.getElem?_map, hi]
      rfl
    · intro m z' hm hz
      rw [ex, List.getElem?_map, hno m hm] at hz
      cases hz
      rfl
/-- int(b) -/
theorem d_intB {k : Bool} (hg : Gl X "int") (hm : X.mg "int" = none) (ha : EvD X a σ H (.bool k)) (he : starEach [a] X.env = (false, eval a X.env) :: starEach [] X.env := by rfl) : EvD X (.Call (.Name "int" p) [a] [] pos) σ H (.int (if k then 1 else 0)) :=
  d_ct (x := "int") (T := "int") call_int1 hg hm boot_int (a_cons ha a_nil he) (fun vs H2 _ hvs Q q => by
    cases hvs with | cons h t => cases t; cases h; exact .inr ⟨k, rfl, q _ H2 (Ex.refl H2) (.int _)⟩) (he := he)
end
end TX
end
section
namespace TX
open PySem PySem.Spec PyProof.Rows L2 Evl W1 D1 MM HotX L2H
/-- a def that takes the caught exception -/
structure GfE (P : Program) (w : World) (K : PySem.W.Frag) (mg : Str → Option Value) (base : Heap) (k : Nat) (x : Str) (ps : List Str) (sp : Addr → Value → Option Addr → Sp) : Prop where
  ex : ∃ fd, FnE P w K mg base k (He.ga K x) fd ps sp ∧ Binds K fd ps []
  m : mg x = some (.ref (He.ga K x))
  kp : PySem.W.keepIn K (.ref (He.ga K x)) = true
section
variable {P : Program} {w : World} {K : PySem.W.Frag} {mg : Str → Option Value} {base : Heap}
abbrev hX (P : Program) (w : World) (K : PySem.W.Frag) (mg : Str → Option Value) (base : Heap) (N : List Str) (x : Str) (st : Stmt) (f : Addr) (cdv : Value) (A : Around) (outer : List Env) (s : Shared) (H : Hp) (p : Addr × Obj) : Cx :=
  cxH CX0 P w K mg base N x (defScope st) f cdv A outer s H E0 p
theorem Df.gfE {x : Str} {st : Stmt} (D : Df K mg x st) (k : Nat) {N ps : List Str} {sp : Addr → Value → Option Addr → Sp} (S : FnScope N ps (defScope st)) (len : ∀ a cls d vs H Q E, sp a cls d vs H Q E → vs.length = ps.length)
    (hb : ∀ (kV doc pm : Value) (an : Option Addr) (cdv ct : Value) (us : List Value), us.length = ps.length → bindArgs (PySem.W.fnOf x x (defArgs st) (defBody st) (defScope st) .none kV doc pm an cdv ct) ⟨us, []⟩ = pure (ps.zip us))
    (hbody : ∀ (cdv : Value) (A : Around) (outer : List Env) (s : Shared) (H : Hp) (vs : List V) (Q : VK) (a : Addr) (oe : Obj) (cls : Value) (d : Option Addr), RoomH k (hX P w K mg base N x st (He.ga K x) cdv A outer s H (a, oe)).A →
      HotP (hX P w K mg base N x st (He.ga K x) cdv A outer s H (a, oe)) a oe cls d → sp a cls d vs H Q E0 →
      BlX (hX P w K mg base N x st (He.ga K x) cdv A outer s H (a, oe)) (defBody st) (start N vs) H { nx := fun _ H' => Q .non H', rt := Q }) : GfE P w K mg base (k + 1) x ps sp := by
  obtain ⟨fd, F⟩ := D.ex
  exact ⟨⟨fd, fn_ofE F S len (fun cdv A outer s H vs Q a oe cls d hr hP h => ⟨fun D σ H => BlX _ _ σ H D, BlX.pss, hbody cdv A outer s H vs Q a oe cls d hr hP h⟩), F.bindsN hb⟩, D.m, F.kp⟩
section
variable {X : Cx} {e iter elt : Expr} {es : List Expr} {σ : L2.St} {H : Hp} {pos p p1 p2 p3 p4 : Pos} {x y z : Str} {i j k n : Nat} {scope : Scope} {own : List (Str × Nat)}
/-- f(error) within the suite -/
theorem w_callX {a : Addr} {oe : Obj} {cls : Value} {d : Option Addr} {ps : List Str} {sp : Addr → Value → Option Addr → Sp} {Q : VK} (hP : HotP X a oe cls d) (G : GfE X.prog X.w X.K X.mg X.base k x ps sp) (hr : RoomH k X.A) (hg : Gl X x) (ha : EvP X e σ H fun v _ => v = .ref a) (h : ∀ H1, Ex H H1 → sp a cls d [.ref a] H1 Q E0) (hdb : (x == ("__debug__" : Str)) = false := by decide)
    (he : starEach (e :: []) X.env = (false, eval e X.env) :: starEach [] X.env := by rfl) (hpl : (backTo pos (starEach [] X.env)).any (·.1) = false := by rfl) : WpX X (.Call (.Name x p) [e] [] pos) σ H Q := by
  obtain ⟨fd, F, Bn⟩ := G.ex
  refine .of (pe_callE hP F hr hg G.m G.kp Bn (pa_cons pp pa_nil he) hdb he hpl) ?_
  refine ha.run H (Ex.refl H) _ fun v H1 e1 hv => ?_
  rw [hv]
  exact h H1 e1
/-- [y for x, y in e if x] there, e a list of pairs -/
theorem n_lcF {qs : List (Bool × Str)} (hc : HotC X) (hN : X.N.Nodup) (ha : EvD X iter σ H (.list (qs.map fun q => .tuple [.bool q.1, .str q.2]))) (ok : BlkOk X.N X.env.scope scope own) (hi : X.N[i]? = some x) (hj : X.N[j]? = some y)
    (hx : scope.names.lookup x = some .local) (hy : scope.names.lookup y = some .local) (hw : ∀ u v, wipe (((wipe σ (own.map (·.2))).set i (some u)).set j (some v)) (own.map (·.2)) = wipe σ (own.map (·.2))) (hz : qs.length ≤ 100000)
    (hl1 : ∀ u v, (((wipe σ (own.map (·.2))).set i (some u)).set j (some v))[i]? = some (some u)) (hl2 : ∀ u v, (((wipe σ (own.map (·.2))).set i (some u)).set j (some v))[j]? = some (some v))
    (hx1 : (x == ("__debug__" : Str)) = false := by decide) (hx2 : (x == ("__classdict__" : Str)) = false := by decide) (hy1 : (y == ("__debug__" : Str)) = false := by decide) (hy2 : (y == ("__classdict__" : Str)) = false := by decide)
    (hs : ∀ z, foldedSetIterable iter X.env z = pure z := by intro _; rfl) : EvD X (.ListComp (.Name y p1) [⟨.Tuple [.Name x p2, .Name y p3] k p4, iter, [.Name x p], 0⟩] scope pos) σ H (.list ((qs.filter (·.1)).map (.str ·.2))) :=
  .of (pe_lcH (own := own) (g := gTup X.K 2 (gCons (gName i) (gCons (gName j) gNil))) (tt := fun σ' H' Q => ∀ (s : Shared) (H0 : Hp) (C : Addr) (cl : List (Str × Addr)) (fp : List Addr), WtX (CxBlkH X s H0 scope (compEnvC scope cl C X.env) fp) (.Name x p) σ' H' Q)
      (te := fun σ' H' Q => ∀ (s : Shared) (H0 : Hp) (C : Addr) (cl : List (Str × Addr)) (fp : List Addr), WpX (CxBlkH X s H0 scope (compEnvC scope cl C X.env) fp) (.Name y p1) σ' H' Q) hc hN (pi_listH pp) ok
      (fun s H C cl fp => pg_tupH hc (pgs_cons (pg_name (i := i) hN hi (.inl (lookup_relabel_local hx)) (.inr (lookup_relabel_local hx))) (pgs_cons (pg_name (i := j) hN hj (.inl (lookup_relabel_local hy)) (.inr (lookup_relabel_local hy))) pgs_nil)))
      (fun s H C cl fp => pts_one ⟨fun pins s' _ _ _ I h => h s H C cl fp pins s' I⟩)
      (fun s H C cl fp => ⟨fun pins s' _ _ _ I h => h s H C cl fp pins s' I⟩) hs)
    fun H1 e1 Q q => ha.run H1 e1 _ fun va H2 e2 hva => by
      obtain ⟨a1, xs, rfl, hxa, hxs⟩ := dp_lst hva
      have l1 := dpa_length hxs
      rw [List.length_map] at l1
      refine ⟨a1, rfl, ⟨xs, hxa⟩, fun D hD => lc_list (g := gTup X.K 2 (gCons (gName i) (gCons (gName j) gNil))) (tt := fun σ' H' Q => ∀ (s : Shared) (H0 : Hp) (C : Addr) (cl : List (Str × Addr)) (fp : List Addr), WtX (CxBlkH X s H0 scope (compEnvC scope cl C X.env) fp) (.Name x p) σ' H' Q) (te := fun σ' H' Q => ∀ (s : Shared) (H0 : Hp) (C : Addr) (cl : List (Str × Addr)) (fp : List Addr), WpX (CxBlkH X s H0 scope (compEnvC scope cl C X.env) fp) (.Name y p1) σ' H' Q) (σ := σ) (vs := own.map (·.2)) (Qd := fun H' => Q (.ref D) H') (xs := xs)
        (fun n H' => H2 D = none ∧ Ex H2 H' ∧ ∃ acc, H' D = some (.lst acc) ∧ acc = ((qs.take n).filter (·.1)).map fun q => V.str q.2) ⟨hD, Ex.new hD, [], upd_same, rfl⟩ (fun n H' _ p => ex_l p.2.1 hxa) (fun n v H' hv p => ?_) (fun H' p => ?_)⟩
      · obtain ⟨d0, hd0, hdv⟩ := dpa_getV hxs hv
        rw [List.getElem?_map] at hd0
        cases hq : qs[n]? with
        | none => rw [hq] at hd0; cases hd0
        | some q0 =>
          rw [hq] at hd0
          obtain ⟨b, f⟩ := q0
          cases (show _ = _ from Option.some.inj hd0)
          obtain ⟨k1, k2, acc, k3, k4⟩ := p
          obtain ⟨a2, zs, rfl, hza, hzs⟩ := dp_tup (dp_ex k2 hdv)
          obtain ⟨u, v', rfl, hu, hv'⟩ : ∃ u v, zs = [u, v] ∧ Dp X.K H' u (.bool b) ∧ Dp X.K H' v (.str f) := by
            cases hzs with | cons h1 t => cases t with | cons h2 t => cases t; exact ⟨_, _, rfl, h1, h2⟩
          cases hu
          cases hv'
          have et : qs.take (n + 1) = qs.take n ++ [(b, f)] := by rw [List.take_add_one, hq]; rfl
          refine ⟨a2, _, rfl, hza, rfl, _, _, rfl, _, _, rfl, rfl, hw _ _, fun s0 H0 C0 cl0 fp0 => ?_⟩
          have hb : EvB (CxBlkH X s0 H0 scope (compEnvC scope cl0 C0 X.env) fp0) (.Name x p) (((wipe σ (own.map (·.2))).set i (some (.bl b))).set j (some (.str f))) H' b := b_val (x_var i hi (.inl (lookup_relabel_local hx)) (hl1 _ _) (.bl b) hx1 hx2)
          refine hb.run H' (Ex.refl _) _ fun H3 e3 => ?_
          by_cases hbt : b = true
          · rw [if_pos hbt]
            intro s1 H01 C1 cl1 fp1
            have hy0 : EvD (CxBlkH X s1 H01 scope (compEnvC scope cl1 C1 X.env) fp1) (.Name y p1) (((wipe σ (own.map (·.2))).set i (some (.bl b))).set j (some (.str f))) H3 (.str f) := x_var j hj (.inl (lookup_relabel_local hy)) (hl2 _ _) (.str f) hy1 hy2
            refine hy0.run H3 (Ex.refl _) _ fun yv H4 e4 hyv => ?_
            cases hyv
            have h4 : H4 D = some (.lst acc) := e4 _ _ (e3 _ _ k3)
            refine ⟨acc, h4, ?_, k1, Ex.mut (k2.trans (e3.trans e4)) k1, acc ++ [.str f], upd_same, ?_⟩
            · have : acc.length ≤ qs.length := by rw [k4, List.length_map]; exact Nat.le_trans (List.length_filter_le _ _) (by rw [List.length_take]; omega)
              rw [sizeLine_eq]; omega
            · rw [et, List.filter_append, List.map_append, k4, hbt]; rfl
          · rw [if_neg hbt]
            refine ⟨k1, k2.trans e3, acc, e3 _ _ k3, ?_⟩
            rw [et, List.filter_append, List.map_append, k4, Bool.eq_false_iff.mpr hbt]
            simp
      · obtain ⟨p1, p2, acc, p3, p4⟩ := p
        rw [l1, List.take_length] at p4
        refine q _ _ (e2.trans p2) (.lst (sq_of p3) ?_)
        rw [p4]
        have := strs_dpa (K := X.K) (H := H') (((qs.filter (·.1)).map (·.2)))
        rw [List.map_map, List.map_map] at this
        exact this
end
end
end TX
end
section
namespace TX
open PySem PySem.Spec PyProof.Rows L2 Evl W1 D1 MM HotX L2H
section
variable {P : Program} {w : World} {K : PySem.W.Frag} {mg : Str → Option Value} {base : Heap}
theorem he_var {X : Cx} {σ : L2.St} {H : Hp} {pos : Pos} {x : Str} {v : V} (hi : X.N[0]? = some x) (hv : X.env.scope.names.lookup x = some .local) (hs : σ[0]? = some (some v)) (h1 : (x == ("__debug__" : Str)) = false) (h2 : (x == ("__classdict__" : Str)) = false) : EvP X (.Name x pos) σ H fun u _ => u = v := v_var 0 hi (.inl hv) hs h1 h2
local macro_rules
  | `(tactic| walk_at "ex") => `(tactic| (apply i_exc; (assumption); (assumption); (assumption); (assumption); (rfl); (rfl); (apply he_var; (rfl); (rfl); (rfl); (rfl); (rfl)); (decide +kernel); (rfl); (rfl); (rfl); (decide); (rfl)))
local macro_rules
  | `(tactic| walk_at "eh") => `(tactic| first
    | exact a_nil
    | (apply z_cons; (walk_at "ex"); (walk_at "eh"); (rfl)))
local macro_rules
  | `(tactic| walk_at "ek") => `(tactic| first
    | exact a_nil
    | (apply z_cons; (apply d_tup; (apply z_cons; (walk_at "ex"); (apply z_cons; (exact d_str); (exact a_nil); (rfl)); (rfl)); (simp)); (walk_at "ek"); (rfl)))
def kinds10 : List Str := ["Busy", "TooManyEdits", "NoPlace", "BadLength", "TooMany", "LastWord", "TooLong", "NothingToUndo", "NoWidth", "TooNarrow"]
def kindsOf (b : Bad) : List (Bool × Str) := kinds10.map fun n => (Bad.isA b n, n)
theorem kinds_name (b : Bad) : ((kindsOf b).filter (·.1)).map (PyData.str ·.2) = [.str b.name] := by
  have h : ((kindsOf b).filter (·.1)).map (·.2) = [b.name] := by cases b <;> decide +kernel
  have := congrArg (List.map PyData.str) h
  rw [List.map_map] at this
  exact this
/-- asked of the caught error at a -/
def S_err (K : PySem.W.Frag) (r : Bad → V → Hp → Hp → Prop) : Addr → Value → Option Addr → Sp := fun a cls d vs H Q _ => ∃ b, vs = [.ref a] ∧ ErrAt K H cls d b ∧ ∀ v H', Ex H H' → r b v H H' → Q v H'
theorem error_name_ok (D : Df K mg "error_name" s_error_name) (B : Bi mg) (C : ∀ b, ErC K mg b) : GfE P w K mg base 1 "error_name" P_error_name (S_err K fun b v _ _ => v = .str b.name) := by
  refine D.gfE 0 sc_error_name (fun a cls d vs H Q E h => ?_) (fun _ _ _ _ _ _ us hl => match us, hl with | [_], _ => rfl) fun cdv A outer s H vs Q a oe cls d hr hP h => ?_
  · obtain ⟨_, rfl, _⟩ := h
    rfl
  · obtain ⟨b, rfl, hE, hQ⟩ := h
    have Cb := C b
    refine bl_set 1 sc_error_name.nd rfl (.inl rfl) ((n_lst (ds := (kindsOf b).map fun q => .tuple [.bool q.1, .str q.2]) ?_ (by simp [kindsOf, kinds10])).go fun v H1 e1 ⟨l, xs, ev, hl0, hl1, hxs⟩ => ?_)
    · show EvA _ _ _ _ [.tuple [.bool (Bad.isA b "Busy"), .str "Busy"], .tuple [.bool (Bad.isA b "TooManyEdits"), .str "TooManyEdits"], .tuple [.bool (Bad.isA b "NoPlace"), .str "NoPlace"], .tuple [.bool (Bad.isA b "BadLength"), .str "BadLength"], .tuple [.bool (Bad.isA b "TooMany"), .str "TooMany"], .tuple [.bool (Bad.isA b "LastWord"), .str "LastWord"], .tuple [.bool (Bad.isA b "TooLong"), .str "TooLong"], .tuple [.bool (Bad.isA b "NothingToUndo"), .str "NothingToUndo"], .tuple [.bool (Bad.isA b "NoWidth"), .str "NoWidth"], .tuple [.bool (Bad.isA b "TooNarrow"), .str "TooNarrow"]]
      walk_at "ek"
    subst ev
    have hk : Dp K H1 (.ref l) (.list ((kindsOf b).map fun q => .tuple [.bool q.1, .str q.2])) := .lst (sq_of hl1) hxs
    refine bl_retD (d := .str b.name) (d_ixL (i := 0) (ds := [.str b.name]) (EvD.is (n_lcF (own := [("is_kind", 2), ("name", 3)]) (i := 2) (j := 3) (qs := kindsOf b) hP.hot sc_error_name.nd (by walk_at "var") (blkOk_by (N := N_error_name) (sc := defScope s_error_name) (by decide +kernel)) rfl rfl rfl rfl (fun _ _ => rfl) (by simp [kindsOf, kinds10]) (fun _ _ => rfl) (fun _ _ => rfl)) (by rw [kinds_name])) d_int rfl) rfl fun v H2 e2 hv => hQ v H2 (e1.trans e2) (dp_str hv)
end
end TX
end
section
namespace TX
open PySem PySem.Spec PyProof.Rows L2 Evl W1 D1 MM HotX L2H
section
variable {P : Program} {w : World} {K : PySem.W.Frag} {mg : Str → Option Value} {base : Heap}
local macro_rules
  | `(tactic| walk_at "ex") => `(tactic| (apply i_exc; (assumption); (assumption); (assumption); (first | assumption | (refine ErrAt.ex (by assumption) ?_; assumption)); (rfl); (rfl); (apply he_var; (rfl); (rfl); (rfl); (rfl); (rfl)); (decide +kernel); (rfl); (rfl); (rfl); (decide); (rfl)))
local macro_rules
  | `(tactic| walk_at "eh") => `(tactic| first
    | exact a_nil
    | (apply z_cons; (walk_at "ex"); (walk_at "eh"); (rfl)))
local macro_rules
  | `(tactic| walk_at "es") => `(tactic| first
    | exact a_nil
    | (apply z_cons; (exact d_str); (walk_at "es"); (rfl)))
def names17 : List Str := ["BadEdit", "BadEdits", "BadLength", "BadRow", "BadText", "BadTimes", "Busy", "LastWord", "NothingToUndo", "Rejected", "TooLong", "TooMany", "TooManyEdits", "TooNarrow", "NoPlace", "NoVersion", "NoWidth"]
def flags17 (b : Bad) : List Bool := names17.map (Bad.isA b)
def idx17 : Bad → Nat
  | .noPlace => 14 | .noWidth => 16 | .tooMany => 11 | .lastWord => 7 | .tooLong => 10 | .tooManyEdits => 12 | .nothing => 8 | .busy => 6 | .tooNarrow => 13
theorem flags_at (b : Bad) : (flags17 b)[idx17 b]? = some true := by cases b <;> decide +kernel
theorem flags_no (b : Bad) : ∀ m, m < idx17 b → (flags17 b)[m]? = some false := by cases b <;> decide +kernel
theorem flags_one (b : Bad) : (flags17 b).countP id = 1 := by cases b <;> decide +kernel
theorem names_at (b : Bad) : names17[idx17 b]? = some b.name := by cases b <;> decide +kernel
def bases3 (b : Bad) : List Bool := [Bad.isA b "WrapError", Bad.isA b "ValueError", Bad.isA b "LookupError"]
def two : List PyData := [.list [.bool true, .bool true, .bool false], .list [.bool false, .bool false, .bool true]]
theorem bases_at (b : Bad) : atI two (if decide ((13 : Int) < (idx17 b : Nat)) then 1 else 0) = some (.list ((bases3 b).map .bool)) := by
  have h : bases3 b = if decide ((13 : Int) < (idx17 b : Nat)) then [false, false, true] else [true, true, false] := by cases b <;> decide +kernel
  rw [h]
  cases b <;> rfl
theorem shaped_b3 (x y z : Bool) : SeqAt.shaped (.list [.bool x, .bool y, .bool z]) = true := by
  show (PyData.canLay0 (.list [.bool x, .bool y, .bool z]) && decide (PyData.depth (.list [.bool x, .bool y, .bool z]) ≤ 64)) = true
  simp [PyData.canLay0, PyData.canLayAll0, PyData.depth, PyData.depthAll]
theorem eqv_b3 (x y z : Bool) : PyData.eqv (.list [.bool x, .bool y, .bool z]) (.list [.bool x, .bool y, .bool z]) = true := by
  simp [PyData.eqv, PyData.eqvAll]
theorem atI_nat {l : List PyData} {n : Nat} {d : PyData} (h : l[n]? = some d) : atI l (n : Int) = some d := by
  have hl : n < l.length := (List.getElem?_eq_some_iff.mp h).1
  unfold atI
  have e : ixN l.length (n : Int) = some n := by
    unfold ixN
    first
      | (simp; omega)
      | (split <;> simp <;> omega)
  rw [e]
  exact h
theorem law_name_ok (D : Df K mg "_law_name" s__law_name) (B : Bi mg) (C : ∀ b, ErC K mg b) : GfE P w K mg base 1 "_law_name" P__law_name (S_err K fun b v _ _ => v = .str b.name) := by
  refine D.gfE 0 sc__law_name (fun a cls d vs H Q E h => ?_) (fun _ _ _ _ _ _ us hl => match us, hl with | [_], _ => rfl) fun cdv A outer s H vs Q a oe cls d hr hP h => ?_
  · obtain ⟨_, rfl, _⟩ := h
    rfl
  · obtain ⟨b, rfl, hE, hQ⟩ := h
    have Cb := C b
    have S := sc__law_name
    refine bl_set 1 S.nd rfl (.inl rfl) ((n_lst (ds := (names17.take 9).map .str) (by show EvA _ _ _ _ [.str "BadEdit", .str "BadEdits", .str "BadLength", .str "BadRow", .str "BadText", .str "BadTimes", .str "Busy", .str "LastWord", .str "NothingToUndo"]; walk_at "es") (by decide)).go fun v H1 e1 ⟨l1, xs1, ev, _, hl1, hx1⟩ => ?_)
    subst ev
    refine bl_set 1 S.nd rfl (.inl rfl) ((n_catL (l_var 1 rfl (.inl rfl) rfl hl1 hx1) (n_lst (ds := (names17.drop 9).map .str) (by show EvA _ _ _ _ [.str "Rejected", .str "TooLong", .str "TooMany", .str "TooManyEdits", .str "TooNarrow", .str "NoPlace", .str "NoVersion", .str "NoWidth"]; walk_at "es") (by decide)) (by decide)).go fun v H2 e2 ⟨l2, xs2, ev, _, hl2, hx2⟩ => ?_)
    subst ev
    have hnames : Dp K H2 (.ref l2) (.list (names17.map .str)) := .lst (sq_of hl2) hx2
    have hE2 := hE.ex (e1.trans e2)
    have f3 : ∀ (x y z : Str) (H0 : Hp), ErrAt K H0 cls d b → True := fun _ _ _ _ _ => trivial
    refine bl_set 2 S.nd rfl (.inl rfl) ((n_lst (ds := ((names17.take 3).map (Bad.isA b)).map .bool) (by show EvA _ _ _ _ [.bool (Bad.isA b "BadEdit"), .bool (Bad.isA b "BadEdits"), .bool (Bad.isA b "BadLength")]; walk_at "eh") (by simp [names17])).go fun v H3 e3 ⟨l3, xs3, ev, _, hl3, hx3⟩ => ?_)
    subst ev
    have hE3 := hE2.ex e3
    refine bl_set 2 S.nd rfl (.inl rfl) ((n_catL (l_var 2 rfl (.inl rfl) rfl hl3 hx3) (n_lst (ds := (((names17.drop 3).take 3).map (Bad.isA b)).map .bool) (by show EvA _ _ _ _ [.bool (Bad.isA b "BadRow"), .bool (Bad.isA b "BadText"), .bool (Bad.isA b "BadTimes")]; walk_at "eh") (by simp [names17])) (by simp [names17])).go fun v H4 e4 ⟨l4, xs4, ev, _, hl4, hx4⟩ => ?_)
    subst ev
    have hE4 := hE3.ex e4
    refine bl_set 2 S.nd rfl (.inl rfl) ((n_catL (l_var 2 rfl (.inl rfl) rfl hl4 hx4) (n_lst (ds := (((names17.drop 6).take 3).map (Bad.isA b)).map .bool) (by show EvA _ _ _ _ [.bool (Bad.isA b "Busy"), .bool (Bad.isA b "LastWord"), .bool (Bad.isA b "NothingToUndo")]; walk_at "eh") (by simp [names17])) (by simp [names17])).go fun v H5 e5 ⟨l5, xs5, ev, _, hl5, hx5⟩ => ?_)
    subst ev
    have hE5 := hE4.ex e5
    refine bl_set 2 S.nd rfl (.inl rfl) ((n_catL (l_var 2 rfl (.inl rfl) rfl hl5 hx5) (n_lst (ds := (((names17.drop 9).take 3).map (Bad.isA b)).map .bool) (by show EvA _ _ _ _ [.bool (Bad.isA b "Rejected"), .bool (Bad.isA b "TooLong"), .bool (Bad.isA b "TooMany")]; walk_at "eh") (by simp [names17])) (by simp [names17])).go fun v H6 e6 ⟨l6, xs6, ev, _, hl6, hx6⟩ => ?_)
    subst ev
    have hE6 := hE5.ex e6
    refine bl_set 2 S.nd rfl (.inl rfl) ((n_catL (l_var 2 rfl (.inl rfl) rfl hl6 hx6) (n_lst (ds := (((names17.drop 12).take 3).map (Bad.isA b)).map .bool) (by show EvA _ _ _ _ [.bool (Bad.isA b "TooManyEdits"), .bool (Bad.isA b "TooNarrow"), .bool (Bad.isA b "NoPlace")]; walk_at "eh") (by simp [names17])) (by simp [names17])).go fun v H7 e7 ⟨l7, xs7, ev, _, hl7, hx7⟩ => ?_)
    subst ev
    have hE7 := hE6.ex e7
    refine bl_set 2 S.nd rfl (.inl rfl) ((n_catL (l_var 2 rfl (.inl rfl) rfl hl7 hx7) (n_lst (ds := ((names17.drop 15).map (Bad.isA b)).map .bool) (by show EvA _ _ _ _ [.bool (Bad.isA b "NoVersion"), .bool (Bad.isA b "NoWidth")]; walk_at "eh") (by simp [names17])) (by simp [names17])).go fun v H8 e8 ⟨l8, xs8, ev, _, hl8, hx8⟩ => ?_)
    subst ev
    have hE8 := hE7.ex e8
    have hflags : Dp K H8 (.ref l8) (.list ((flags17 b).map .bool)) := .lst (sq_of hl8) hx8
    refine bl_set 3 S.nd rfl (.inl rfl) ((n_lst (ds := (bases3 b).map .bool) (by show EvA _ _ _ _ [.bool (Bad.isA b "WrapError"), .bool (Bad.isA b "ValueError"), .bool (Bad.isA b "LookupError")]; walk_at "eh") (by simp [bases3])).go fun v H9 e9 ⟨l9, xs9, ev, _, hl9, hx9⟩ => ?_)
    subst ev
    have hbases : Dp K H9 (.ref l9) (.list ((bases3 b).map .bool)) := .lst (sq_of hl9) hx9
    have hflags9 := dp_ex e9 hflags
    have e39 : Ex H2 H9 := e3.trans (e4.trans (e5.trans (e6.trans (e7.trans (e8.trans e9)))))
    have hnames9 := dp_ex e39 hnames
    refine bl_when (k := !((((flags17 b).countP id : Nat) : Int) == 1) || !(PyData.eqv (.list ((bases3 b).map .bool)) (.list ((bases3 b).map .bool)))) (EvW.tob (w_or (b_neI (d_countB (by walk_at "var")) d_int) fun _ => w_or1 (b_ne (by have := hr.un; omega) (by walk_at "var") (d_ixL (i := if decide ((13 : Int) < (idx17 b : Nat)) then 1 else 0) (ds := two) ?_ (d_intB (by rfl) B.int (d_gt (d_indexB (by walk_at "var") (flags_at b) (flags_no b)) d_int)) (bases_at b)) (shaped_b3 _ _ _) (shaped_b3 _ _ _)))) (fun hk => ?_) fun _ H10 e10 => ?_
    · exact d_lst (a_cons (d_lst (a_cons d_bl (a_cons d_bl (a_cons d_bl a_nil))) (by decide)) (a_cons (d_lst (a_cons d_bl (a_cons d_bl (a_cons d_bl a_nil))) (by decide)) a_nil)) (by decide)
    · rw [flags_one b, show PyData.eqv (.list ((bases3 b).map .bool)) (.list ((bases3 b).map .bool)) = true from eqv_b3 _ _ _] at hk
      cases hk
    have hn10 := dp_ex e10 hnames9
    have hf10 := dp_ex e10 hflags9
    refine bl_retD (d := .str b.name) (d_ixL (i := ((idx17 b : Nat) : Int)) (ds := names17.map .str) (by walk_at "var") (d_indexB (by walk_at "var") (flags_at b) (flags_no b)) (atI_nat (by rw [List.getElem?_map, names_at]; rfl))) rfl fun v H11 e11 hv => hQ v H11 (e1.trans (e2.trans (e39.trans (e10.trans e11)))) (dp_str hv)
end
end TX
end
section
namespace TX
open PySem PySem.Spec PyProof.Rows L2 Evl W1 D1 MM HotX L2H
section
variable {X : Cx} {e : Expr} {es : List Expr} {σ : L2.St} {H : Hp} {pos p p2 : Pos} {x : Str} {xs : List Str} {a : Addr} {oe : Obj} {cls : Value} {d : Option Addr} {b : Bad} {k : Nat}
inductive NmL (X : Cx) : List Expr → List Str → Prop where
  | nil : NmL X [] []
  | cons {x : Str} {p : Pos} {es : List Expr} {xs : List Str} : Gl X x → x ≠ "__name__" → (x == ("__debug__" : Str)) = false → starEach (.Name x p :: es) X.env = (false, eval (.Name x p) X.env) :: starEach es X.env → NmL X es xs → NmL X (.Name x p :: es) (x :: xs)
def EvCs (X : Cx) (es : List Expr) (σ : L2.St) (us : List Value) : Prop := ∀ H1 (Q : List V → Hp → Prop), (∀ vs, vs.length = us.length → (∀ zs, Vals vs zs → zs = us) → Q vs H1) → WaX X es σ H1 Q
theorem nm_run (C : ErC X.K X.mg b) : ∀ {es : List Expr} {xs : List Str}, NmL X es xs → (∀ x ∈ xs, x ∈ errNames) → ∃ us, us.length = xs.length ∧ PySem.W.kitAny X.K (.ref (Bad.adr X.K b)) us = some (xs.any (Bad.isA b)) ∧ EvCs X es σ us
  | _, _, .nil, _ => ⟨[], rfl, rfl, fun H1 Q q => .of pa_nil (q [] rfl fun zs hz => by cases hz; rfl)⟩
  | _, _, .cons (x := x) (p := p) (es := es) (xs := xs) hg hn hdb hst r, hx => by
    obtain ⟨us, hl, hu, he⟩ := nm_run C r fun y hy => hx y (List.mem_cons_of_mem _ hy)
    obtain ⟨c, hc, hk⟩ := C.kit x (hx x (List.mem_cons_self ..))
    refine ⟨c :: us, by rw [List.length_cons, List.length_cons, hl], ?_, ?_⟩
    · unfold PySem.W.kitAny
      rw [hk, List.any_cons]
      cases Bad.isA b x with
      | true => rfl
      | false => exact hu
    · have key : ∀ (cv : V), (∀ z, RelV cv z → z = c) → PE X (.Name x p) (tC cv) → EvCs X (.Name x p :: es) σ (c :: us) := fun cv hcv hpe H1 Q q =>
        .of (pa_cons hpe aa hst) (he H1 _ fun vs hvl hvs => q (cv :: vs) (by rw [List.length_cons, List.length_cons, hvl]) fun zs hz => by
          cases hz with
          | cons r1 r2 => rw [hcv _ r1, hvs _ r2])
      rcases hc with ⟨f, hm, rfl⟩ | ⟨T, hm, hb, rfl⟩
      · exact key (.ref f) (fun z hz => hz) (pe_glob hg hm rfl hdb)
      · exact key (.ty T) (fun z hz => hz) (pe_bltn hg hm hb (v := .ty T) rfl hn hdb)
/-- isinstance(e, (A, B, ..)) -/
theorem i_excN (hP : HotP X a oe cls d) (C : ErC X.K X.mg b) (B : Bi X.mg) (hE : ErrAt X.K H cls d b) (hg : Gl X "isinstance") (ha : EvP X e σ H fun v _ => v = .ref a) (hn : NmL X es xs) (hx : ∀ x ∈ xs, x ∈ errNames) (hz : xs.length ≤ 100)
    (he : starEach [e, .Tuple es k p] X.env = (false, eval e X.env) :: starEach [.Tuple es k p] X.env := by rfl) (he2 : starEach [.Tuple es k p] X.env = (false, eval (.Tuple es k p) X.env) :: starEach [] X.env := by rfl) (hpl : (backTo pos (starEach [.Tuple es k p] X.env)).any (·.1) = false := by rfl) :
    EvD X (.Call (.Name "isinstance" p2) [e, .Tuple es k p] [] pos) σ H (.bool (xs.any (Bad.isA b))) := by
  obtain ⟨rfl, _⟩ := id hE
  obtain ⟨us, hl, hk, hes⟩ := nm_run (σ := σ) C hn hx
  refine .of (pe_callB (call_isEN hP C.exd) hg B.isinstance boot_isinstance (pa_cons pp (pa_cons (pe_tup aa) pa_nil he2) he) (he := he) (hpl := hpl)) fun H1 e1 Q q => ha.run H1 e1 _ fun v H2 e2 hv => ?_
  refine hes H2 _ fun vs hvl hvs => ⟨szl (by rw [hvl, hl]; omega), fun t ht => ⟨t, vs, us, _, by rw [hv], upd_same, hvs, (hE.ex (e1.trans (e2.trans (Ex.new ht)))).dok, hk, q _ _ (e2.trans (Ex.new ht)) (.bl _)⟩⟩
/-- e.f, e the caught error -/
theorem f_exc {f : Str} (hP : HotP X a oe cls d) (C : ErC X.K X.mg b) (hE : ErrAt X.K H cls d b) (ha : EvP X e σ H fun v _ => v = .ref a) (hf : Bad.field b = some f) (hb : attributeBase e f X.env (eval e X.env) = eval e X.env := by rfl) : EvP X (.Attribute e f pos) σ H fun v H' => ∃ dv, Dp X.K H' v dv := by
  obtain ⟨rfl, h2⟩ := id hE
  refine .of (pe_byE hP C.exd (C.noF f hf) pp hb) fun H1 e1 Q q => ha.run H1 e1 _ fun v H2 e2 hv => ?_
  rw [hf] at h2
  obtain ⟨dd, y, dv, h3, h4, h5⟩ := h2
  exact ⟨hv, dd, y, h3, e2 _ _ (e1 _ _ h4), q _ H2 e2 ⟨dv, dp_ex (e1.trans e2) h5⟩⟩
local macro_rules
  | `(tactic| walk_at "nm") => `(tactic| first
    | exact .nil
    | (refine .cons ?_ ?_ ?_ ?_ ?_; (rfl); (decide); (rfl); (rfl); (walk_at "nm")))
end
section
variable {P : Program} {w : World} {K : PySem.W.Frag} {mg : Str → Option Value} {base : Heap}
local macro_rules
  | `(tactic| walk_at "nm") => `(tactic| first
    | exact .nil
    | (refine .cons ?_ ?_ ?_ ?_ ?_; (rfl); (decide); (rfl); (rfl); (walk_at "nm")))
theorem law_field_ok (D : Df K mg "_law_field" s__law_field) (B : Bi mg) (C : ∀ b, ErC K mg b) : GfE P w K mg base 1 "_law_field" P__law_field (S_err K fun _ v _ H' => ∃ dv, Dp K H' v dv) := by
  refine D.gfE 0 sc__law_field (fun a cls d vs H Q E h => ?_) (fun _ _ _ _ _ _ us hl => match us, hl with | [_], _ => rfl) fun cdv A outer s H vs Q a oe cls d hr hP h => ?_
  · obtain ⟨_, rfl, _⟩ := h
    rfl
  · obtain ⟨b, rfl, hE, hQ⟩ := h
    have Cb := C b
    refine bl_when (k := (["BadLength", "BadTimes", "NoPlace", "NoVersion", "NoWidth"] : List Str).any (Bad.isA b)) (b_val (i_excN hP Cb B hE (by rfl) (he_var rfl rfl rfl rfl rfl) (by walk_at "nm") (by decide +kernel) (by decide))) (fun hk H1 e1 => ?_) fun hk1 H1 e1 => ?_
    · have hf : Bad.field b = some "value" := by revert hk; cases b <;> decide +kernel
      exact bl_ret ((f_exc hP Cb (hE.ex e1) (he_var rfl rfl rfl rfl rfl) hf).go fun v H2 e2 hv => hQ v H2 (e1.trans e2) hv)
    refine bl_when (k := (["BadEdit", "BadText", "Rejected"] : List Str).any (Bad.isA b)) (b_val (i_excN hP Cb B (hE.ex e1) (by rfl) (he_var rfl rfl rfl rfl rfl) (by walk_at "nm") (by decide +kernel) (by decide))) (fun hk H2 e2 => ?_) fun hk2 H2 e2 => ?_
    · exact absurd hk (by cases b <;> decide +kernel)
    refine bl_when (k := (["TooLong", "TooNarrow"] : List Str).any (Bad.isA b)) (b_val (i_excN hP Cb B (hE.ex (e1.trans e2)) (by rfl) (he_var rfl rfl rfl rfl rfl) (by walk_at "nm") (by decide +kernel) (by decide))) (fun hk H3 e3 => ?_) fun hk3 H3 e3 => ?_
    · have hf : Bad.field b = some "place" := by revert hk; cases b <;> decide +kernel
      exact bl_ret ((f_exc hP Cb (hE.ex (e1.trans (e2.trans e3))) (he_var rfl rfl rfl rfl rfl) hf).go fun v H4 e4 hv => hQ v H4 (e1.trans (e2.trans (e3.trans e4))) hv)
    refine bl_when (k := Bad.isA b "TooMany") (b_val (i_exc hP Cb B (hE.ex (e1.trans (e2.trans e3))) (by rfl) (by rfl) (he_var rfl rfl rfl rfl rfl) (by decide +kernel) rfl rfl rfl (by decide) rfl)) (fun hk H4 e4 => ?_) fun hk4 H4 e4 => ?_
    · have hf : Bad.field b = some "limit" := by revert hk; cases b <;> decide +kernel
      exact bl_ret ((f_exc hP Cb (hE.ex (e1.trans (e2.trans (e3.trans e4)))) (he_var rfl rfl rfl rfl rfl) hf).go fun v H5 e5 hv => hQ v H5 (e1.trans (e2.trans (e3.trans (e4.trans e5)))) hv)
    have e14 := e1.trans (e2.trans (e3.trans e4))
    have hR : Bad.isA b "BadRow" = false := by cases b <;> decide +kernel
    refine bl_retD (d := .none) (d_if (k := Bad.isA b "BadRow") (b_val (i_exc hP Cb B (hE.ex e14) (by rfl) (by rfl) (he_var rfl rfl rfl rfl rfl) (by decide +kernel) rfl rfl rfl (by decide) rfl)) (fun h => by rw [hR] at h; cases h) fun _ => d_none) rfl fun v H5 e5 hv => hQ v H5 (e14.trans e5) ⟨.none, hv⟩
end
end TX
end
section
namespace TX
open PySem PySem.Spec PyProof.Rows L2 Evl W1 D1 MM
abbrev PKind := MM.Kind
/-! ### frames: instances in M may be written -/
def isIns : HO → Prop
  | .ins .. => True
  | .frz _ (.ext _) => True
  | _ => False
def noExt : HO → Prop
  | .ext _ => False
  | _ => True
def FrI (M : Addr → Prop) (H H' : Hp) : Prop := ∀ a o, H a = some o → H' a = some o ∨ (M a ∧ isIns o)
theorem FrI.of {M : Addr → Prop} {H H' : Hp} (e : Ex H H') : FrI M H H' := fun a o h => .inl (e a o h)
theorem FrI.refl {M : Addr → Prop} (H : Hp) : FrI M H H := .of (Ex.refl H)
theorem FrI.trans {M : Addr → Prop} {H H1 H2 : Hp} (a : FrI M H H1) (b : FrI M H1 H2) : FrI M H H2 := fun x o h => (a x o h).elim (fun z => b x o z) .inr
theorem FrI.mono {M M' : Addr → Prop} {H H' : Hp} (a : FrI M H H') (m : ∀ x, M x → M' x) : FrI M' H H' := fun x o h => (a x o h).imp id fun z => ⟨m x z.1, z.2⟩
theorem FrI.upd {M : Addr → Prop} {H : Hp} {p : Addr} {o u : HO} (hp : H p = some o) (ho : isIns o) (hm : M p) : FrI M H (upd H p u) := fun a x h => by
  by_cases e : a = p
  · subst e
    rw [hp] at h
    cases h
    exact .inr ⟨hm, ho⟩
  · exact .inl (by rw [upd_ne e]; exact h)
theorem FrI.rd {M : Addr → Prop} {H H' : Hp} (f : FrI M H H') {a : Addr} {u : HO} (hu : ¬ isIns u) (h : Rd H a u) (hx : noExt u := by trivial) : Rd H' a u := by
  rcases h with h | ⟨o, h⟩
  · exact .inl ((f a _ h).elim id fun z => absurd z.2 hu)
  · refine .inr ⟨o, (f a _ h).elim id fun z => ?_⟩
    cases u with
    | ext φ => exact hx.elim
    | _ => exact (show False from z.2).elim
theorem FrI.sqt {M : Addr → Prop} {K : PySem.W.Frag} {H H' : Hp} (f : FrI M H H') {a : Addr} {xs : List V} (h : SqT K H a xs) : SqT K H' a xs := h.imp (fun z => f.rd id z) id
theorem FrI.sql {M : Addr → Prop} {K : PySem.W.Frag} {H H' : Hp} (f : FrI M H H') {a : Addr} {xs : List V} (h : SqL K H a xs) : SqL K H' a xs := h.imp (fun z => f.rd id z) id
mutual
theorem FrI.dp {M : Addr → Prop} {K : PySem.W.Frag} {H H' : Hp} (e : FrI M H H') : ∀ {v : V} {d : PyData}, Dp K H v d → Dp K H' v d
  | _, _, .non => .non
  | _, _, .bl b => .bl b
  | _, _, .int i => .int i
  | _, _, .str x => .str x
  | _, _, .lst h a => .lst (e.sql h) (FrI.dpa e a)
  | _, _, .tup h a => .tup (e.sqt h) (FrI.dpa e a)
theorem FrI.dpa {M : Addr → Prop} {K : PySem.W.Frag} {H H' : Hp} (e : FrI M H H') : ∀ {vs : List V} {ds : List PyData}, DpAll K H vs ds → DpAll K H' vs ds
  | _, _, .nil => .nil
  | _, _, .cons h t => .cons (FrI.dp e h) (FrI.dpa e t)
end
theorem FrI.ins {M : Addr → Prop} {H H' : Hp} (f : FrI M H H') {a : Addr} {o : HO} (h : H a = some o) (hn : ¬ M a) : H' a = some o := (f a o h).elim id fun z => absurd z.1 hn
theorem FrI.lst {M : Addr → Prop} {H H' : Hp} (f : FrI M H H') {a : Addr} {xs : List V} (h : H a = some (.lst xs)) : H' a = some (.lst xs) := (f a _ h).elim id fun z => absurd z.2 id
/-! ### a page in the heap -/
abbrev fsOf (lg : Bool) (v1 v2 v3 v4 v5 v6 : V) : List (Str × V) := ("now", v1) :: ("states", v2) :: ("done", v3) :: ("wanted", v4) :: ("is_busy", v5) :: (bif lg then [("rows", v6)] else [])
def logD (l : List (Str × Int)) : PyData := .tuple (l.map fun q => .tuple [.str q.1, .int q.2])
def statesD (l : List (List Int)) : PyData := .tuple (l.map rowD)
def doneD (l : List Edit) : PyData := .tuple (l.map edD)
structure PgV (K : PySem.W.Frag) (H : Hp) (st : Pg) (v1 v2 v3 v4 v5 v6 : V) : Prop where
  now : Dp K H v1 (rowD st.now)
  states : Dp K H v2 (statesD st.states)
  done : Dp K H v3 (doneD st.done)
  wanted : Dp K H v4 (optI st.wanted)
  busy : Dp K H v5 (.bool st.busy)
  log : Dp K H v6 (logD st.log)
theorem PgV.fr {M : Addr → Prop} {K : PySem.W.Frag} {H H' : Hp} {st : Pg} {v1 v2 v3 v4 v5 v6 : V} (h : PgV K H st v1 v2 v3 v4 v5 v6) (f : FrI M H H') : PgV K H' st v1 v2 v3 v4 v5 v6 := ⟨f.dp h.now, f.dp h.states, f.dp h.done, f.dp h.wanted, f.dp h.busy, f.dp h.log⟩
/-- at p: a page of the class C, of that kind, in that state -/
def PgAt (K : PySem.W.Frag) (H : Hp) (p C : Addr) (kd : PKind) (st : Pg) : Prop := ∃ dx v1 v2 v3 v4 v5 v6, H p = some (.ins C dx (fsOf kd.lg v1 v2 v3 v4 v5 v6)) ∧ PgV K H st v1 v2 v3 v4 v5 v6
theorem PgAt.fr {M : Addr → Prop} {K : PySem.W.Frag} {H H' : Hp} {p C : Addr} {kd : PKind} {st : Pg} (h : PgAt K H p C kd st) (f : FrI M H H') (hn : ¬ M p) : PgAt K H' p C kd st := by
  obtain ⟨dx, v1, v2, v3, v4, v5, v6, h1, h2⟩ := h
  exact ⟨dx, v1, v2, v3, v4, v5, v6, f.ins h1 hn, h2.fr f⟩
theorem PgAt.ex {K : PySem.W.Frag} {H H' : Hp} {p C : Addr} {kd : PKind} {st : Pg} (h : PgAt K H p C kd st) (e : Ex H H') : PgAt K H' p C kd st := h.fr (FrI.of (M := fun _ => False) e) id
def pgFields : List Str := ["now", "states", "done", "wanted", "is_busy", "rows"]
/-- what of the class C matters everywhere -/
structure PgC (K : PySem.W.Frag) (C : Addr) : Prop where
  cls : Cls K C
  na : ∀ f ∈ pgFields, NoAttr K C f
section
variable {X : Cx} {e o : Expr} {rest : List Stmt} {σ : L2.St} {H : Hp} {D : Ends} {pos pos' : Pos} {f : Str} {p C dx : Addr} {fs : List (Str × V)} {v : V} {d : PyData} {Φ : V → Hp → Prop}
/-- e.f -/
theorem v_fld (he : EvP X e σ H fun u _ => u = .ref p) (hp : H p = some (.ins C dx fs)) (c : Cls X.K C) (n : NoAttr X.K C f) (l : fs.lookup f = some v) (hb : attributeBase e f X.env (eval e X.env) = eval e X.env := by rfl) : EvP X (.Attribute e f pos) σ H fun u _ => u = v :=
  .of (pe_fld pp hb) fun H1 e1 Q q => he.run H1 e1 _ fun u H2 e2 hu => ⟨p, C, dx, fs, v, hu, e2 _ _ (e1 _ _ hp), c, n, l, q v H2 e2 rfl⟩
theorem d_fld (he : EvP X e σ H fun u _ => u = .ref p) (hp : H p = some (.ins C dx fs)) (c : Cls X.K C) (n : NoAttr X.K C f) (l : fs.lookup f = some v) (hd : Dp X.K H v d) (hb : attributeBase e f X.env (eval e X.env) = eval e X.env := by rfl) : EvD X (.Attribute e f pos) σ H d :=
  .of (pe_fld pp hb) fun H1 e1 Q q => he.run H1 e1 _ fun u H2 e2 hu => ⟨p, C, dx, fs, v, hu, e2 _ _ (e1 _ _ hp), c, n, l, q v H2 e2 (dp_ex (e1.trans e2) hd)⟩
/-- e.f, a constant of the class -/
theorem v_con {u : Value} (he : EvP X e σ H fun u _ => u = .ref p) (hp : H p = some (.ins C dx fs)) (c : Cls X.K C) (k : Con X.K C f v u) (l : fs.lookup f = none) (hb : attributeBase e f X.env (eval e X.env) = eval e X.env := by rfl) : EvP X (.Attribute e f pos) σ H fun u _ => u = v :=
  .of (pe_con pp hb) fun H1 e1 Q q => he.run H1 e1 _ fun y H2 e2 hy => ⟨p, C, dx, fs, v, u, hy, e2 _ _ (e1 _ _ hp), c, k, l, q v H2 e2 rfl⟩
/-- o.f = e -/
theorem bl_fld {value : Expr} (hv : WpX X value σ H fun v H1 => ∃ C dx fs, EvP X o σ H1 (fun u _ => u = .ref p) ∧ H1 p = some (.ins C dx fs) ∧ Cls X.K C ∧ NoAttr X.K C f ∧ fs.length < 900 ∧ (∀ H2, Ex H1 H2 → BlX X rest σ (upd H2 p (.ins C dx (putF f v fs))) D)) (hs : swapsWith value (some (.Attribute o f pos')) pos.line X.env = pure false := by rfl) : BlX X (.Assign [.Attribute o f pos'] value pos :: rest) σ H D :=
  bl_st (ps_fld (ta := fun σ H Q => WpX X o σ H Q) (tv := fun σ H Q => WpX X value σ H Q) pp pp hs) (hv.imp fun v H1 ⟨C, dx, fs, ho, hp, c, n, l, k⟩ => ho.go fun u H2 e2 hu => ⟨p, C, dx, fs, hu, e2 _ _ hp, c, n, Nat.lt_of_lt_of_le l (by decide), k H2 e2⟩)
end
/-! ### methods -/
/-- the method m of the class C, as its promise goes -/
structure Mf (P : Program) (w : World) (K : PySem.W.Frag) (mg : Str → Option Value) (base : Heap) (k : Nat) (C : Addr) (m : Str) (ps : List Str) (sp : Sp) : Prop where
  ex : ∃ f fd, Meth K C m f ∧ FnOk P w K mg base (L2N.CX P w) k f fd ps sp ∧ Binds K fd ps []
/-- the def st as the method m of C -/
structure Dm (K : PySem.W.Frag) (C : Addr) (m qual : Str) (st : Stmt) : Prop where
  ex : ∃ f fd, Meth K C m f ∧ FunD K m qual (defArgs st) (defBody st) (defScope st) [] [] f fd
section
variable {P : Program} {w : World} {K : PySem.W.Frag} {mg : Str → Option Value} {base : Heap}
theorem Dm.mf {C : Addr} {m qual : Str} {st : Stmt} (D : Dm K C m qual st) (k : Nat) {N ps : List Str} {sp : Sp} (S : FnScope N ps (defScope st)) (len : ∀ vs H Q E, sp vs H Q E → vs.length = ps.length)
    (hb : ∀ (kV doc pm : Value) (an : Option Addr) (cdv ct : Value) (us : List Value), us.length = ps.length → bindArgs (PySem.W.fnOf m qual (defArgs st) (defBody st) (defScope st) .none kV doc pm an cdv ct) ⟨us, []⟩ = pure (ps.zip us))
    (hbody : ∀ (f : Addr) (cdv : Value) (A : Around) (outer : List Env) (s : Shared) (H : Hp) (vs : List V) (Q : VK) (E : XK), Room k (cX P w K mg base N qual st f cdv A outer s H E).A → sp vs H Q E →
      BlX (cX P w K mg base N qual st f cdv A outer s H E) (defBody st) (start N vs) H { nx := fun _ H' => Q .non H', rt := Q }) : Mf P w K mg base (k + 1) C m ps sp := by
  obtain ⟨f, fd, M, F⟩ := D.ex
  exact ⟨f, fd, M, F.ok S len (fun cdv A outer s H vs Q E hr h => ⟨fun D σ H => BlX _ _ σ H D, BlX.pss, hbody f cdv A outer s H vs Q E hr h⟩), F.bindsN hb⟩
section
variable {X : Cx} {e o : Expr} {es : List Expr} {σ : L2.St} {H : Hp} {pos apos : Pos} {m : Str} {p C dx : Addr} {fs : List (Str × V)} {ps : List Str} {sp : Sp} {E : XK} {Q : VK} {k : Nat} {pl : Sem Bool}
/-- o.m(e, ..) -/
theorem w_meth (c : Cls X.K C) (M : Mf X.prog X.w X.K X.mg X.base k C m ps sp) (hr : Room k X.A) (hx : Passes (L2N.CX X.prog X.w) X E) (h : WpX X o σ H fun u H1 => u = .ref p ∧ ∃ dx fs, H1 p = some (.ins C dx fs) ∧ fs.lookup m = none ∧ WaX X (e :: es) σ H1 fun vs H2 => sp (.ref p :: vs) H2 Q E)
    (hst : starEach (e :: es) X.env = (false, eval e X.env) :: starEach es X.env := by rfl) (hpl : (backTo pos (starEach es X.env)).any (·.1) = false := by rfl)
    (ht : eval (.Call (.Attribute o m apos) (e :: es) [] pos) X.env = (do
      let ov ← eval o X.env
      standAt apos.atName
      let (f, first) ← holding [ov] (getMethod ov m pl)
      callWith pos f first (backTo pos (starEach (e :: es) X.env)) (backToKw pos (keywordEach [] X.env))) := by rfl) : WpX X (.Call (.Attribute o m apos) (e :: es) [] pos) σ H Q := by
  obtain ⟨f, fd, hm, F, B⟩ := M.ex
  refine .of (pe_meth pp c hm F hr B .nil hx aa hst hpl ht) (h.imp fun u H1 ⟨hu, dx, fs, hp, l, q⟩ => ⟨p, dx, fs, hu, hp, l, ?_⟩)
  have z : (fun (vs : List V) H2 => sp (u :: (vs ++ [])) H2 Q E) = fun vs H2 => sp (.ref p :: vs) H2 Q E := by funext vs H2; rw [List.append_nil, hu]
  rw [z]
  exact q
theorem w_meth0 (c : Cls X.K C) (M : Mf X.prog X.w X.K X.mg X.base k C m ps sp) (hr : Room k X.A) (hx : Passes (L2N.CX X.prog X.w) X E) (h : WpX X o σ H fun u H1 => u = .ref p ∧ ∃ dx fs, H1 p = some (.ins C dx fs) ∧ fs.lookup m = none ∧ sp [.ref p] H1 Q E)
    (ht : eval (.Call (.Attribute o m apos) [] [] pos) X.env = (do
      let ov ← eval o X.env
      standAt apos.atName
      let (f, first) ← holding [ov] (getMethod ov m pl)
      callWith pos f first (backTo pos (starEach [] X.env)) (backToKw pos (keywordEach [] X.env))) := by rfl) : WpX X (.Call (.Attribute o m apos) [] [] pos) σ H Q := by
  obtain ⟨f, fd, hm, F, B⟩ := M.ex
  refine .of (pe_meth0 pp c hm F hr B .nil hx ht) (h.imp fun u H1 ⟨hu, dx, fs, hp, l, q⟩ => ⟨p, dx, fs, hu, hp, l, ?_⟩)
  rw [hu]
  exact q
end
end
end TX
end
section
namespace TX
open PySem PySem.Spec PyProof.Rows L2 Evl W1 D1 MM
theorem put_now {lg : Bool} {v v1 v2 v3 v4 v5 v6 : V} : putF "now" v (fsOf lg v1 v2 v3 v4 v5 v6) = fsOf lg v v2 v3 v4 v5 v6 := by rfl
theorem put_states {lg : Bool} {v v1 v2 v3 v4 v5 v6 : V} : putF "states" v (fsOf lg v1 v2 v3 v4 v5 v6) = fsOf lg v1 v v3 v4 v5 v6 := by rfl
theorem put_done {lg : Bool} {v v1 v2 v3 v4 v5 v6 : V} : putF "done" v (fsOf lg v1 v2 v3 v4 v5 v6) = fsOf lg v1 v2 v v4 v5 v6 := by rfl
theorem put_wanted {lg : Bool} {v v1 v2 v3 v4 v5 v6 : V} : putF "wanted" v (fsOf lg v1 v2 v3 v4 v5 v6) = fsOf lg v1 v2 v3 v v5 v6 := by rfl
theorem put_busy {lg : Bool} {v v1 v2 v3 v4 v5 v6 : V} : putF "is_busy" v (fsOf lg v1 v2 v3 v4 v5 v6) = fsOf lg v1 v2 v3 v4 v v6 := by rfl
theorem put_rows {v v1 v2 v3 v4 v5 v6 : V} : putF "rows" v (fsOf true v1 v2 v3 v4 v5 v6) = fsOf true v1 v2 v3 v4 v5 v := by rfl
theorem fs_few {lg : Bool} {v1 v2 v3 v4 v5 v6 : V} : (fsOf lg v1 v2 v3 v4 v5 v6).length < 900 := by cases lg <;> simp [fsOf]
/-- a name that no page holds -/
theorem fs_no {lg : Bool} {v1 v2 v3 v4 v5 v6 : V} {m : Str} (h : m ∉ pgFields) : (fsOf lg v1 v2 v3 v4 v5 v6).lookup m = none := by
  have e : ∀ x ∈ pgFields, (m == x) = false := fun x hx => by
    have : m ≠ x := fun z => h (z ▸ hx)
    simpa using this
  have a1 := e "now" (by decide); have a2 := e "states" (by decide); have a3 := e "done" (by decide); have a4 := e "wanted" (by decide); have a5 := e "is_busy" (by decide); have a6 := e "rows" (by decide)
  cases lg <;> simp [fsOf, List.lookup, a1, a2, a3, a4, a5, a6]
section
variable {P : Program} {w : World} {K : PySem.W.Frag} {mg : Str → Option Value} {base : Heap}
/-- the page's answer or error -/
def AnsP (K : PySem.W.Frag) (H : Hp) (E : XK) (p C : Addr) (kd : PKind) (k : Pg → Hp → Prop) : Except Bad Pg → Prop
  | .ok st' => ∀ H', FrI (· = p) H H' → PgAt K H' p C kd st' → k st' H'
  | .error b => RsB K H E b
theorem AnsP.ex {H H1 : Hp} {E : XK} {p C : Addr} {kd : PKind} {k : Pg → Hp → Prop} {o : Except Bad Pg} (h : AnsP K H E p C kd k o) (e : Ex H H1) : AnsP K H1 E p C kd k o := by
  cases o with
  | ok r => exact fun H' f hp => h H' ((FrI.of e).trans f) hp
  | error b => exact RsB.ex h e
def S_accept (K : PySem.W.Frag) (C : Addr) (kd : PKind) : Sp := fun vs H Q E => ∃ p x dx fs row, vs = [.ref p, x] ∧ H p = some (.ins C dx fs) ∧ fs.lookup ("MOST" : Str) = none ∧ Dp K H x (rowD row) ∧ RowOk row ∧ (fitsK kd row → ∀ H', Ex H H' → Q .non H') ∧ (¬ fitsK kd row → RsB K H E .tooLong)
theorem accept_ok {C : Addr} {kd : PKind} (hk : kd.nr = false) (D : Dm K C "accept" "Page.accept" s_Page_accept) : Mf P w K mg base 2 C "accept" P_Page_accept (S_accept K C kd) := by
  refine D.mf 1 sc_Page_accept (fun vs H Q E h => ?_) (fun _ _ _ _ _ _ us hl => match us, hl with | [_, _], _ => rfl) fun f cdv A outer s H vs Q E hr h => ?_
  · obtain ⟨_, _, _, _, _, rfl, _⟩ := h
    rfl
  · obtain ⟨p, x, dx, fs, row, rfl, hp, _, hx, hrow, h1, h2⟩ := h
    exact bl_st ps_pass (bl_nil (h1 (fun z => by rw [hk] at z; cases z) H (Ex.refl H)))
theorem acceptN_ok {C : Addr} {kd : PKind} (hk : kd.nr = true) (D : Dm K C "accept" "NarrowPage.accept" s_NarrowPage_accept) (G : PgC K C) (B : Bi mg) (M : ∃ u, Con K C "MOST" (.int 12) u) (Ce : Er K mg "TooLong" "place") : Mf P w K mg base 2 C "accept" P_Page_accept (S_accept K C kd) := by
  refine D.mf 1 sc_NarrowPage_accept (fun vs H Q E h => ?_) (fun _ _ _ _ _ _ us hl => match us, hl with | [_, _], _ => rfl) fun f cdv A outer s H vs Q E hr h => ?_
  · obtain ⟨_, _, _, _, _, rfl, _⟩ := h
    rfl
  · obtain ⟨p, x, dx, fs, r, rfl, hp, hm, hx, hrow, h1, h2⟩ := h
    have hx' : Dp K H x (.tuple (r.map .int)) := hx
    obtain ⟨u, hu⟩ := M
    refine bl_enum (i := 2) (j := 3) po rfl sc_NarrowPage_accept.nd rfl rfl rfl rfl (by rfl) B.enumerate (ds := r.map .int) (by walk_at "ev") (noLs_ints r)
      (fun H1 n σ' H' => Ex H1 H' ∧ (∃ a b, σ' = [some (.ref p), some x, a, b]) ∧ ∀ x ∈ r.take n, x ≤ 12) (fun H1 e1 => ⟨Ex.refl _, ⟨_, _, rfl⟩, by simp⟩) (fun H1 n σ' H' _ p => Tu.of p.1) (fun H1 n d v σ' H' H2 e1 hd hv p e2 => ?_) (fun H1 σ' H' e1 p => ?_)
    · obtain ⟨p1, ⟨a, b, rfl⟩, p3⟩ := p
      obtain ⟨i, hi, rfl⟩ : ∃ i, r[n]? = some i ∧ .int i = d := by
        rw [List.getElem?_map] at hd
        cases e : r[n]? with
        | none => rw [e] at hd; cases hd
        | some i => rw [e] at hd; exact ⟨i, rfl, Option.some.inj hd⟩
      cases hv
      have e02 := e1.trans (p1.trans e2)
      have hp2 := e02 _ _ hp
      refine bl_when (k := decide ((12 : Int) < i)) (b_gt (by walk_at "var") ⟨fun H1 e1 Q q => (v_con (v_var 0 rfl (.inl rfl) rfl rfl rfl) hp2 G.cls hu hm).run H1 e1 Q fun v H2 e2 hv => q v H2 e2 (by rw [hv]; exact .int 12)⟩) (fun hk2 H3 e3 => ?_) fun hk2 H3 e3 => bl_nil ⟨p1.trans (e2.trans e3), ⟨_, _, rfl⟩, fun z hz => ?_⟩
      · have hk' : (12 : Int) < i := of_decide_eq_true hk2
        have hn : ¬ fitsK kd r := fun z => by
          have := z hk i (List.mem_of_getElem? hi)
          omega
        exact bl_raise1 (E := E) (dv := .int (n : Int)) (L2N.takes_of rfl rfl rfl rfl) rfl Ce hr (by rfl) (by walk_at "ev") ((h2 hn _).ex (e02.trans e3))
      · have hk' : ¬ (12 : Int) < i := of_decide_eq_false hk2
        rw [List.take_add_one, hi] at hz
        rcases List.mem_append.mp hz with z1 | z1
        · exact p3 z z1
        · have : z = i := by simpa using z1
          omega
    · refine bl_nil (h1 (fun _ z hz => p.2.2 z ?_) H' (e1.trans p.1))
      rw [List.length_map, List.take_length]
      exact hz
/-- raises Busy, or answers nothing -/
def S_idle (K : PySem.W.Frag) (C : Addr) (kd : PKind) : Sp := fun vs H Q E => ∃ p st, vs = [.ref p] ∧ PgAt K H p C kd st ∧ (st.busy = false → ∀ H', Ex H H' → Q .non H') ∧ (st.busy = true → RsB K H E .busy)
theorem idle_ok {C : Addr} {kd : PKind} (D : Dm K C "check_idle" "Page.check_idle" s_Page_check_idle) (G : PgC K C) (Ce : Er0 K mg "Busy") : Mf P w K mg base 2 C "check_idle" P_Page_check_idle (S_idle K C kd) := by
  refine D.mf 1 sc_Page_check_idle (fun vs H Q E h => ?_) (fun _ _ _ _ _ _ us hl => match us, hl with | [_], _ => rfl) fun f cdv A outer s H vs Q E hr h => ?_
  · obtain ⟨_, _, rfl, _⟩ := h
    rfl
  · obtain ⟨p, st, rfl, ⟨dx, v1, v2, v3, v4, v5, v6, hp, V⟩, h1, h2⟩ := h
    refine bl_when (k := st.busy) (b_val (d_fld (v_var 0 rfl (.inl rfl) rfl rfl rfl) hp G.cls (G.na _ (by decide)) rfl V.busy)) (fun hk H1 e1 => ?_) fun hk H1 e1 => bl_nil (h1 hk H1 e1)
    exact bl_raise0 (E := E) (L2N.takes_of rfl rfl rfl rfl) rfl Ce (by rfl) (Rs0.ex (h2 hk) e1)
def S_perform (K : PySem.W.Frag) (C : Addr) (kd : PKind) : Sp := fun vs H Q E => ∃ p x st e, vs = [.ref p, x] ∧ PgAt K H p C kd st ∧ st.ok kd ∧ Dp K H x (edD e) ∧ e.fit ∧ AnsP K H E p C kd (fun _ H' => Q .non H') (st.perform kd e)
theorem w_methE {X : Cx} {e o : Expr} {es : List Expr} {σ : L2.St} {H : Hp} {pos apos : Pos} {m : Str} {p C dx : Addr} {fs : List (Str × V)} {ps : List Str} {sp : Sp} {E : XK} {Q : VK} {k : Nat} {pl : Sem Bool} {ds : List PyData} (tk : L2N.Takes X fun cls d _ H => E cls d H)
    (c : Cls X.K C) (M : Mf X.prog X.w X.K X.mg X.base k C m ps sp) (hr : Room k X.A) (ho : EvP X o σ H fun u _ => u = .ref p) (hp : H p = some (.ins C dx fs)) (hl : fs.lookup m = none) (ha : EvA X (e :: es) σ H ds) (h : ∀ vs H2, Ex H H2 → DpAll X.K H2 vs ds → sp (.ref p :: vs) H2 Q E)
    (hst : starEach (e :: es) X.env = (false, eval e X.env) :: starEach es X.env := by rfl) (hpl : (backTo pos (starEach es X.env)).any (·.1) = false := by rfl)
    (ht : eval (.Call (.Attribute o m apos) (e :: es) [] pos) X.env = (do
      let ov ← eval o X.env
      standAt apos.atName
      let (f, first) ← holding [ov] (getMethod ov m pl)
      callWith pos f first (backTo pos (starEach (e :: es) X.env)) (backToKw pos (keywordEach [] X.env))) := by rfl) : WpX X (.Call (.Attribute o m apos) (e :: es) [] pos) σ H Q :=
  w_meth c M hr (L2N.passes_call tk (fun _ _ _ _ z => z)) (ho.go fun u H1 e1 hu => ⟨hu, dx, fs, e1 _ _ hp, hl, ha.run H1 e1 _ fun vs H2 e2 hvs => h vs H2 (e1.trans e2) hvs⟩) hst hpl ht
theorem w_meth0E {X : Cx} {o : Expr} {σ : L2.St} {H : Hp} {pos apos : Pos} {m : Str} {p C dx : Addr} {fs : List (Str × V)} {ps : List Str} {sp : Sp} {E : XK} {Q : VK} {k : Nat} {pl : Sem Bool} (tk : L2N.Takes X fun cls d _ H => E cls d H)
    (c : Cls X.K C) (M : Mf X.prog X.w X.K X.mg X.base k C m ps sp) (hr : Room k X.A) (ho : EvP X o σ H fun u _ => u = .ref p) (hp : H p = some (.ins C dx fs)) (hl : fs.lookup m = none) (h : ∀ H2, Ex H H2 → sp [.ref p] H2 Q E)
    (ht : eval (.Call (.Attribute o m apos) [] [] pos) X.env = (do
      let ov ← eval o X.env
      standAt apos.atName
      let (f, first) ← holding [ov] (getMethod ov m pl)
      callWith pos f first (backTo pos (starEach [] X.env)) (backToKw pos (keywordEach [] X.env))) := by rfl) : WpX X (.Call (.Attribute o m apos) [] [] pos) σ H Q :=
  w_meth0 c M hr (L2N.passes_call tk (fun _ _ _ _ z => z)) (ho.go fun u H1 e1 hu => ⟨hu, dx, fs, e1 _ _ hp, hl, h H1 e1⟩) ht
theorem map_cat {α : Type} (f : α → PyData) (l : List α) (a : α) : l.map f ++ [f a] = (l ++ [a]).map f := by rw [List.map_append]; rfl
theorem perform_ok {C : Addr} {kd : PKind} (D : Dm K C "perform" "Page.perform" s_Page_perform) (G : PgC K C) (B : Bi mg) (Co : Co mg) (Ce : Er0 K mg "TooManyEdits") (Ge : Gf P w K mg base 5 "edited" P_edited (S_edited K)) (Ga : Mf P w K mg base 2 C "accept" P_Page_accept (S_accept K C kd)) : Mf P w K mg base 6 C "perform" P_Page_perform (S_perform K C kd) := by
  refine D.mf 5 sc_Page_perform (fun vs H Q E h => ?_) (fun _ _ _ _ _ _ us hl => match us, hl with | [_, _], _ => rfl) fun f cdv A outer s H vs Q E hr h => ?_
  · obtain ⟨_, _, _, _, rfl, _⟩ := h
    rfl
  · obtain ⟨p, x, st, e, rfl, ⟨dx, v1, v2, v3, v4, v5, v6, hp, V⟩, ok, hx, hfit, hA⟩ := h
    have hE := Co.edits
    have hdone : Dp K H v3 (.tuple (st.done.map edD)) := V.done
    unfold Pg.perform at hA
    refine bl_when (k := (((st.done.map edD).length : Nat) : Int) == 60) (b_eqI (d_lenT (by rfl) B.len (d_fld (v_var 0 rfl (.inl rfl) rfl rfl rfl) hp G.cls (G.na _ (by decide)) rfl hdone)) (by walk_at "ev")) (fun hk H1 e1 => ?_) fun hk H1 e1 => ?_
    · have hl : st.done.length = 60 := by
        have := eq_of_beq hk
        rw [List.length_map] at this
        omega
      rw [if_pos hl] at hA
      exact bl_raise0 (E := E) (L2N.takes_of rfl rfl rfl rfl) rfl Ce (by rfl) (Rs0.ex hA e1)
    have hl : ¬ st.done.length = 60 := fun z => by
      rw [List.length_map, z] at hk
      cases hk
    rw [if_neg hl] at hA
    have hnow := ok.now
    have hp1 := e1 _ _ hp
    have V1 := V.fr (M := fun _ => False) (FrI.of e1)
    have hn1 : Dp K H1 v1 (.tuple (st.now.map .int)) := V1.now
    have hx1 := dp_ex e1 hx
    refine bl_set 2 sc_Page_perform.nd rfl (.inl rfl) (w_callE (E := E) (L2N.takes_of rfl rfl rfl rfl) Ge hr (by rfl) (ds := [rowD st.now, edD e]) (by show EvA _ _ _ _ [.tuple (st.now.map .int), edD e]; exact a_cons (d_fld (v_var 0 rfl (.inl rfl) rfl rfl rfl) hp1 G.cls (G.na _ (by decide)) rfl hn1) (a_cons (by walk_at "var") a_nil)) fun vs H2 e2 hvs => ⟨st.now, e, hvs, hnow.1, hfit, ?_⟩)
    cases hr' : editR st.now e with
    | error b =>
      rw [hr'] at hA
      dsimp only at hA
      exact RsB.ex hA (e1.trans e2)
    | ok r =>
      rw [hr'] at hA
      dsimp only at hA
      have hrow := editR_ok hnow.1 hfit hr'
      show ∀ v H', _
      intro v H3 e3 hv
      have e13 := e1.trans (e2.trans e3)
      have hp3 := e13 _ _ hp
      refine bl_expr (w_methE (E := E) (p := p) (L2N.takes_of rfl rfl rfl rfl) G.cls Ga (hr.mono (by decide)) (v_var 0 rfl (.inl rfl) rfl rfl rfl) hp3 (fs_no (by decide)) (ds := [rowD r]) (a_cons (by walk_at "var") a_nil) fun vs H4 e4 hvs => ?_)
      obtain ⟨y, rfl, hy⟩ := dpa1 hvs
      have e14 := e13.trans e4
      refine ⟨p, y, dx, _, r, rfl, e4 _ _ hp3, fs_no (by decide), hy, hrow, fun hf H5 e5 => ?_, fun hf => by rw [if_neg hf] at hA; exact RsB.ex hA e14⟩
      rw [if_pos hf] at hA
      have e15 := e14.trans e5
      have hv5 := dp_ex (e4.trans e5) hv
      have V5 := V.fr (M := fun _ => False) (FrI.of e15)
      refine bl_fld (p := p) ((v_var 2 rfl (.inl rfl) rfl rfl rfl).go fun v' H6 e6 hv' => ⟨C, dx, _, v_var 0 rfl (.inl rfl) rfl rfl rfl, e6 _ _ (e15 _ _ hp), G.cls, G.na _ (by decide), fs_few, fun H7 e7 => ?_⟩)
      subst hv'
      rw [put_now]
      have hp7 : H7 p = some (.ins C dx (fsOf kd.lg v1 v2 v3 v4 v5 v6)) := e7 _ _ (e6 _ _ (e15 _ _ hp))
      have f7 : FrI (· = p) H5 (upd H7 p (.ins C dx (fsOf kd.lg v' v2 v3 v4 v5 v6))) := (FrI.of (e6.trans e7)).trans (FrI.upd hp7 trivial rfl)
      have V7 := V5.fr f7
      have hv7 := f7.dp hv5
      have hx7 := f7.dp (dp_ex e15 hx)
      have hp8 : (upd H7 p (.ins C dx (fsOf kd.lg v' v2 v3 v4 v5 v6))) p = some (.ins C dx (fsOf kd.lg v' v2 v3 v4 v5 v6)) := upd_same
      generalize upd H7 p (.ins C dx (fsOf kd.lg v' v2 v3 v4 v5 v6)) = H8 at f7 V7 hv7 hx7 hp8 ⊢
      have hs8 : Dp K H8 v2 (.tuple (st.states.map rowD)) := V7.states
      have hlen := ok.len
      have hfew := ok.few
      refine bl_fld (p := p) ((d_tup (ds := st.states.map rowD ++ [rowD r]) (a_starT (d_fld (v_var 0 rfl (.inl rfl) rfl rfl rfl) hp8 G.cls (G.na _ (by decide)) rfl hs8) (a_cons (by walk_at "var") a_nil)) (by simp; omega)).go fun u2 H9 e9 hu2 => ⟨C, dx, _, v_var 0 rfl (.inl rfl) rfl rfl rfl, e9 _ _ hp8, G.cls, G.na _ (by decide), fs_few, fun H10 e10 => ?_⟩)
      rw [put_states]
      have hp10 := e10 _ _ (e9 _ _ hp8)
      have f10 : FrI (· = p) H8 (upd H10 p (.ins C dx (fsOf kd.lg v' u2 v3 v4 v5 v6))) := (FrI.of (e9.trans e10)).trans (FrI.upd hp10 trivial rfl)
      have V10 := V7.fr f10
      have hv10 := f10.dp hv7
      have hx10 := f10.dp hx7
      have hu10 := ((FrI.of e10).trans (FrI.upd (M := (· = p)) (u := .ins C dx (fsOf kd.lg v' u2 v3 v4 v5 v6)) hp10 trivial rfl)).dp hu2
      have hp11 : (upd H10 p (.ins C dx (fsOf kd.lg v' u2 v3 v4 v5 v6))) p = some (.ins C dx (fsOf kd.lg v' u2 v3 v4 v5 v6)) := upd_same
      generalize upd H10 p (.ins C dx (fsOf kd.lg v' u2 v3 v4 v5 v6)) = H11 at f10 V10 hv10 hx10 hu10 hp11 ⊢
      have hd11 : Dp K H11 v3 (.tuple (st.done.map edD)) := V10.done
      refine bl_fld (p := p) ((d_tup (ds := st.done.map edD ++ [edD e]) (a_starT (d_fld (v_var 0 rfl (.inl rfl) rfl rfl rfl) hp11 G.cls (G.na _ (by decide)) rfl hd11) (a_cons (by walk_at "var") a_nil)) (by simp; omega)).go fun u3 H12 e12 hu3 => ⟨C, dx, _, v_var 0 rfl (.inl rfl) rfl rfl rfl, e12 _ _ hp11, G.cls, G.na _ (by decide), fs_few, fun H13 e13' => ?_⟩)
      rw [put_done]
      have hp13 := e13' _ _ (e12 _ _ hp11)
      have f13 : FrI (· = p) H11 (upd H13 p (.ins C dx (fsOf kd.lg v' u2 u3 v4 v5 v6))) := (FrI.of (e12.trans e13')).trans (FrI.upd hp13 trivial rfl)
      have V13 := V10.fr f13
      have hu13 := ((FrI.of e13').trans (FrI.upd (M := (· = p)) (u := .ins C dx (fsOf kd.lg v' u2 u3 v4 v5 v6)) hp13 trivial rfl)).dp hu3
      refine bl_nil (hA _ ((FrI.of e15).trans (f7.trans (f10.trans f13))) ⟨dx, v', u2, u3, v4, v5, v6, upd_same, f13.dp hv10, ?_, ?_, V13.wanted, V13.busy, V13.log⟩)
      · have z := f13.dp hu10
        rw [map_cat] at z
        exact z
      · rw [map_cat] at hu13
        exact hu13
end
end TX
end
section
namespace TX
open PySem PySem.Spec PyProof.Rows L2 Evl W1 D1 MM
/-- the def st at g -/
structure Fm (K : PySem.W.Frag) (g : Addr) (m qual : Str) (st : Stmt) : Prop where
  ex : ∃ fd, FunD K m qual (defArgs st) (defBody st) (defScope st) [] [] g fd
/-- what the def at g promises -/
structure Ff (P : Program) (w : World) (K : PySem.W.Frag) (mg : Str → Option Value) (base : Heap) (k : Nat) (g : Addr) (ps : List Str) (sp : Sp) : Prop where
  ex : ∃ fd, FnOk P w K mg base (L2N.CX P w) k g fd ps sp ∧ Binds K fd ps []
section
variable {P : Program} {w : World} {K : PySem.W.Frag} {mg : Str → Option Value} {base : Heap}
theorem Ff.mf {C g : Addr} {m : Str} {k : Nat} {ps : List Str} {sp : Sp} (F : Ff P w K mg base k g ps sp) (M : Meth K C m g) : Mf P w K mg base k C m ps sp := by
  obtain ⟨fd, h1, h2⟩ := F.ex
  exact ⟨g, fd, M, h1, h2⟩
theorem Ff.raw {g : Addr} {k : Nat} {ps : List Str} {sp : Sp} (F : Ff P w K mg base k g ps sp) : FnR P w K mg base (L2N.CX P w) k g sp := by
  obtain ⟨fd, h1, h2⟩ := F.ex
  exact FnR.imp (h1.raw h2 .nil) fun vs H Q E h => by rw [List.append_nil]; exact h
theorem Fm.ff {g : Addr} {m qual : Str} {st : Stmt} (D : Fm K g m qual st) (k : Nat) {N ps : List Str} {sp : Sp} (S : FnScope N ps (defScope st)) (len : ∀ vs H Q E, sp vs H Q E → vs.length = ps.length)
    (hb : ∀ (kV doc pm : Value) (an : Option Addr) (cdv ct : Value) (us : List Value), us.length = ps.length → bindArgs (PySem.W.fnOf m qual (defArgs st) (defBody st) (defScope st) .none kV doc pm an cdv ct) ⟨us, []⟩ = pure (ps.zip us))
    (hbody : ∀ (f : Addr) (cdv : Value) (A : Around) (outer : List Env) (s : Shared) (H : Hp) (vs : List V) (Q : VK) (E : XK), Room k (cX P w K mg base N qual st f cdv A outer s H E).A → sp vs H Q E →
      BlX (cX P w K mg base N qual st f cdv A outer s H E) (defBody st) (start N vs) H { nx := fun _ H' => Q .non H', rt := Q }) : Ff P w K mg base (k + 1) g ps sp := by
  obtain ⟨fd, F⟩ := D.ex
  exact ⟨fd, F.ok S len (fun cdv A outer s H vs Q E hr h => ⟨fun D σ H => BlX _ _ σ H D, BlX.pss, hbody g cdv A outer s H vs Q E hr h⟩), F.bindsN hb⟩
def Edit.can : Edit → Prop
  | .undo => True
  | e => e.fit
/-- an edit on the page at p, the answer its version -/
def S_alone (K : PySem.W.Frag) (C : Addr) (kd : PKind) : Sp := fun vs H Q E => ∃ p x st e, vs = [.ref p, x] ∧ PgAt K H p C kd st ∧ st.ok kd ∧ Dp K H x (edD e) ∧ Edit.name e ≠ "undo" ∧ (st.busy = false → e.fit) ∧ AnsP K H E p C kd (fun st' H' => Q (.int (st'.done.length : Nat)) H') (st.alone kd e)
theorem alone_eq {kd : PKind} {st : Pg} {e : Edit} (hn : Edit.name e ≠ "undo") : st.alone kd e = if st.busy = true then .error .busy else st.perform kd e := by
  cases e <;> first | rfl | exact absurd rfl hn
theorem perform_alone_ok {g C : Addr} {kd : PKind} (D : Fm K g "perform_alone" "Page.perform_alone" s_Page_perform_alone) (G : PgC K C) (B : Bi mg) (Gi : Mf P w K mg base 2 C "check_idle" P_Page_check_idle (S_idle K C kd)) (Gp : Mf P w K mg base 6 C "perform" P_Page_perform (S_perform K C kd)) : Ff P w K mg base 7 g P_Page_perform_alone (S_alone K C kd) := by
  refine D.ff 6 sc_Page_perform_alone (fun vs H Q E h => ?_) (fun _ _ _ _ _ _ us hl => match us, hl with | [_, _], _ => rfl) fun f cdv A outer s H vs Q E hr h => ?_
  · obtain ⟨_, _, _, _, rfl, _⟩ := h
    rfl
  · obtain ⟨p, x, st, e, rfl, hpg, ok, hx, hn, hfit, hA⟩ := h
    rw [alone_eq hn] at hA
    obtain ⟨dx, v1, v2, v3, v4, v5, v6, hp, V⟩ := id hpg
    refine bl_expr (w_meth0E (E := E) (p := p) (L2N.takes_of rfl rfl rfl rfl) G.cls Gi (hr.mono (by decide)) (v_var 0 rfl (.inl rfl) rfl rfl rfl) hp (fs_no (by decide)) fun H1 e1 => ⟨p, st, rfl, hpg.ex e1, fun hb H2 e2 => ?_, fun hb => by rw [if_pos hb] at hA; exact RsB.ex hA e1⟩)
    rw [if_neg (by rw [hb]; decide)] at hA
    have e12 := e1.trans e2
    have hA2 := hA.ex e12
    refine bl_expr (w_methE (E := E) (p := p) (L2N.takes_of rfl rfl rfl rfl) G.cls Gp hr (v_var 0 rfl (.inl rfl) rfl rfl rfl) (e12 _ _ hp) (fs_no (by decide)) (ds := [edD e]) (a_cons (x_var 1 rfl (.inl rfl) rfl (dp_ex e12 hx) rfl rfl) a_nil) fun vs H3 e3 hvs => ?_)
    obtain ⟨y, rfl, hy⟩ := dpa1 hvs
    have hA3 := hA2.ex e3
    refine ⟨p, y, st, e, rfl, hpg.ex (e12.trans e3), ok, hy, hfit hb, ?_⟩
    cases ho : st.perform kd e with
    | error b =>
      rw [ho] at hA3
      exact hA3
    | ok st' =>
      rw [ho] at hA3
      intro H4 f4 hp4
      obtain ⟨dx', u1, u2, u3, u4, u5, u6, hp', V'⟩ := id hp4
      have hd : Dp K H4 u3 (.tuple (st'.done.map edD)) := V'.done
      refine bl_ret ((d_lenT (by rfl) B.len (d_fld (v_var 0 rfl (.inl rfl) rfl rfl rfl) hp' G.cls (G.na _ (by decide)) rfl hd)).go fun v H5 e5 hv => ?_)
      cases hv
      rw [List.length_map]
      exact hA3 H5 (f4.trans (FrI.of e5)) (hp4.ex e5)
/-- the method nm: its edit is built of its arguments -/
def S_do (K : PySem.W.Frag) (C : Addr) (kd : PKind) (nm : Str) (R : Pg → Edit → Except Bad Pg) : Sp := fun vs H Q E => ∃ p args st e, vs = .ref p :: args ∧ Edit.name e = nm ∧ DpAll K H args (Edit.args e) ∧ PgAt K H p C kd st ∧ st.ok kd ∧ (st.busy = false → Edit.can e) ∧ AnsP K H E p C kd (fun st' H' => Q (.int (st'.done.length : Nat)) H') (R st e)
section
variable {C g : Addr} {kd : PKind} (G : PgC K C) (Ga : Mf P w K mg base 7 C "perform_alone" P_Page_perform_alone (S_alone K C kd))
include G Ga
theorem put_ok (D : Fm K g "put" "Page.put" s_Page_put) : Ff P w K mg base 8 g P_Page_put (S_do K C kd "put" (Pg.alone kd)) := by
  refine D.ff 7 sc_Page_put (fun vs H Q E h => ?_) (fun _ _ _ _ _ _ us hl => match us, hl with | [_, _, _], _ => rfl) fun f cdv A outer s H vs Q E hr h => ?_
  · obtain ⟨_, args, _, e, rfl, hn, ha, _⟩ := h
    cases e <;> first | exact congrArg Nat.succ (dpa_length ha) | (simp only [Edit.name] at hn; exact absurd hn (by decide))
  · obtain ⟨p, args, st, e, rfl, hn, ha, hpg, ok, hfit, hA⟩ := h
    cases e with
    | put a l =>
      obtain ⟨x, y, rfl, hx, hy⟩ := dpa2 ha
      obtain ⟨dx, v1, v2, v3, v4, v5, v6, hp, V⟩ := id hpg
      refine bl_ret (w_methE (E := E) (p := p) (L2N.takes_of rfl rfl rfl rfl) G.cls Ga hr (v_var 0 rfl (.inl rfl) rfl rfl rfl) hp (fs_no (by decide)) (ds := [edD (.put a l)]) (a_cons (d_tup (ds := [.str "put", .int a, .int l]) (a_cons d_str (by walk_at "ea")) (by simp)) a_nil) fun vs H3 e3 hvs => ?_)
      obtain ⟨y, rfl, hy⟩ := dpa1 hvs
      exact ⟨p, y, st, .put a l, rfl, hpg.ex e3, ok, hy, (by simp only [Edit.name]; decide), hfit, hA.ex e3⟩
    | _ => (simp only [Edit.name] at hn; exact absurd hn (by decide))
theorem cut_ok (D : Fm K g "cut" "Page.cut" s_Page_cut) : Ff P w K mg base 8 g P_Page_cut (S_do K C kd "cut" (Pg.alone kd)) := by
  refine D.ff 7 sc_Page_cut (fun vs H Q E h => ?_) (fun _ _ _ _ _ _ us hl => match us, hl with | [_, _], _ => rfl) fun f cdv A outer s H vs Q E hr h => ?_
  · obtain ⟨_, args, _, e, rfl, hn, ha, _⟩ := h
    cases e <;> first | exact congrArg Nat.succ (dpa_length ha) | (simp only [Edit.name] at hn; exact absurd hn (by decide))
  · obtain ⟨p, args, st, e, rfl, hn, ha, hpg, ok, hfit, hA⟩ := h
    cases e with
    | cut a =>
      obtain ⟨x, rfl, hx⟩ := dpa1 ha
      obtain ⟨dx, v1, v2, v3, v4, v5, v6, hp, V⟩ := id hpg
      refine bl_ret (w_methE (E := E) (p := p) (L2N.takes_of rfl rfl rfl rfl) G.cls Ga hr (v_var 0 rfl (.inl rfl) rfl rfl rfl) hp (fs_no (by decide)) (ds := [edD (.cut a)]) (a_cons (d_tup (ds := [.str "cut", .int a]) (a_cons d_str (by walk_at "ea")) (by simp)) a_nil) fun vs H3 e3 hvs => ?_)
      obtain ⟨y, rfl, hy⟩ := dpa1 hvs
      exact ⟨p, y, st, .cut a, rfl, hpg.ex e3, ok, hy, (by simp only [Edit.name]; decide), hfit, hA.ex e3⟩
    | _ => (simp only [Edit.name] at hn; exact absurd hn (by decide))
theorem resize_ok (D : Fm K g "resize" "Page.resize" s_Page_resize) : Ff P w K mg base 8 g P_Page_resize (S_do K C kd "resize" (Pg.alone kd)) := by
  refine D.ff 7 sc_Page_resize (fun vs H Q E h => ?_) (fun _ _ _ _ _ _ us hl => match us, hl with | [_, _, _], _ => rfl) fun f cdv A outer s H vs Q E hr h => ?_
  · obtain ⟨_, args, _, e, rfl, hn, ha, _⟩ := h
    cases e <;> first | exact congrArg Nat.succ (dpa_length ha) | (simp only [Edit.name] at hn; exact absurd hn (by decide))
  · obtain ⟨p, args, st, e, rfl, hn, ha, hpg, ok, hfit, hA⟩ := h
    cases e with
    | resize a l =>
      obtain ⟨x, y, rfl, hx, hy⟩ := dpa2 ha
      obtain ⟨dx, v1, v2, v3, v4, v5, v6, hp, V⟩ := id hpg
      refine bl_ret (w_methE (E := E) (p := p) (L2N.takes_of rfl rfl rfl rfl) G.cls Ga hr (v_var 0 rfl (.inl rfl) rfl rfl rfl) hp (fs_no (by decide)) (ds := [edD (.resize a l)]) (a_cons (d_tup (ds := [.str "resize", .int a, .int l]) (a_cons d_str (by walk_at "ea")) (by simp)) a_nil) fun vs H3 e3 hvs => ?_)
      obtain ⟨y, rfl, hy⟩ := dpa1 hvs
      exact ⟨p, y, st, .resize a l, rfl, hpg.ex e3, ok, hy, (by simp only [Edit.name]; decide), hfit, hA.ex e3⟩
    | _ => (simp only [Edit.name] at hn; exact absurd hn (by decide))
theorem turn_ok (D : Fm K g "turn" "Page.turn" s_Page_turn) : Ff P w K mg base 8 g P_Page_turn (S_do K C kd "turn" (Pg.alone kd)) := by
  refine D.ff 7 sc_Page_turn (fun vs H Q E h => ?_) (fun _ _ _ _ _ _ us hl => match us, hl with | [_], _ => rfl) fun f cdv A outer s H vs Q E hr h => ?_
  · obtain ⟨_, args, _, e, rfl, hn, ha, _⟩ := h
    cases e <;> first | exact congrArg Nat.succ (dpa_length ha) | (simp only [Edit.name] at hn; exact absurd hn (by decide))
  · obtain ⟨p, args, st, e, rfl, hn, ha, hpg, ok, hfit, hA⟩ := h
    cases e with
    | turn =>
      cases ha
      obtain ⟨dx, v1, v2, v3, v4, v5, v6, hp, V⟩ := id hpg
      refine bl_ret (w_methE (E := E) (p := p) (L2N.takes_of rfl rfl rfl rfl) G.cls Ga hr (v_var 0 rfl (.inl rfl) rfl rfl rfl) hp (fs_no (by decide)) (ds := [edD .turn]) (a_cons (d_tup (ds := [.str "turn"]) (a_cons d_str a_nil) (by simp)) a_nil) fun vs H3 e3 hvs => ?_)
      obtain ⟨y, rfl, hy⟩ := dpa1 hvs
      exact ⟨p, y, st, .turn, rfl, hpg.ex e3, ok, hy, (by simp only [Edit.name]; decide), hfit, hA.ex e3⟩
    | _ => (simp only [Edit.name] at hn; exact absurd hn (by decide))
end
end
end TX
end
section
namespace TX
open PySem PySem.Spec PyProof.Rows L2 Evl W1 D1 MM
section
variable {P : Program} {w : World} {K : PySem.W.Frag} {mg : Str → Option Value} {base : Heap}
theorem cut_last (l : List PyData) : D1.cutD l none (some (-1)) = l.dropLast := by
  have h : HT.sIx l.length l.length (some (-1)) = l.length - 1 := by
    show (if (-1 : Int) < 0 then ((-1 : Int) + (l.length : Int)).toNat else min (-1 : Int).toNat l.length) = l.length - 1
    rw [if_pos (by decide)]
    omega
  unfold D1.cutD
  rw [HT.sIx_none, h, List.drop_zero, Nat.sub_zero, List.dropLast_eq_take]
theorem atI_lst {l : List PyData} {d : PyData} (h : l.getLast? = some d) : atI l (-1) = some d := by
  have h0 : l ≠ [] := fun z => by rw [z] at h; cases h
  have hl : 0 < l.length := List.length_pos_iff.mpr h0
  unfold atI
  have e : ixN l.length (-1) = some (l.length - 1) := by
    unfold ixN
    rw [if_neg (by decide), if_pos (by omega)]
    congr 1
    omega
  rw [e]
  show l[l.length - 1]? = some d
  rw [← List.getLast?_eq_getElem?]
  exact h
theorem lay_edits : ∀ l : List Edit, PyData.canLayAll0 (l.map edD) = true ∧ PyData.depthAll (l.map edD) ≤ 1
  | [] => by simp [PyData.canLayAll0, PyData.depthAll]
  | e :: l => by
    obtain ⟨h1, h2⟩ := lay_edits l
    have a : PyData.strOk "put" = true := by decide +kernel
    have b : PyData.strOk "cut" = true := by decide +kernel
    have c : PyData.strOk "resize" = true := by decide +kernel
    have d : PyData.strOk "turn" = true := by decide +kernel
    have f : PyData.strOk "undo" = true := by decide +kernel
    have h3 : PyData.canLay0 (edD e) = true ∧ PyData.depth (edD e) ≤ 1 := by
      cases e <;> simp [edD, Edit.parts, PyData.canLay0, PyData.canLayAll0, PyData.depth, PyData.depthAll, a, b, c, d, f]
    rw [List.map_cons]
    refine ⟨by simp [PyData.canLayAll0, h1, h3.1], ?_⟩
    have h4 := h3.2
    simp only [PyData.depthAll]
    omega
theorem shaped_done (l : List Edit) : SeqAt.shaped (.tuple (l.map edD)) = true := by
  obtain ⟨h1, h2⟩ := lay_edits l
  show (PyData.canLay0 (.tuple (l.map edD)) && decide (PyData.depth (.tuple (l.map edD)) ≤ 64)) = true
  have : PyData.depth (.tuple (l.map edD)) ≤ 64 := by
    simp only [PyData.depth]
    omega
  simp [PyData.canLay0, h1, this]
theorem eqv_tnil (l : List PyData) : PyData.eqv (.tuple l) (.tuple []) = l.isEmpty := by cases l <;> simp [PyData.eqv, PyData.eqvAll]
theorem undo_ok {g C : Addr} {kd : PKind} (D : Fm K g "undo" "Page.undo" s_Page_undo) (G : PgC K C) (B : Bi mg) (Ce : Er0 K mg "NothingToUndo") (Gi : Mf P w K mg base 2 C "check_idle" P_Page_check_idle (S_idle K C kd)) : Ff P w K mg base 8 g P_Page_undo (S_do K C kd "undo" (Pg.alone kd)) := by
  refine D.ff 7 sc_Page_undo (fun vs H Q E h => ?_) (fun _ _ _ _ _ _ us hl => match us, hl with | [_], _ => rfl) fun f cdv A outer s H vs Q E hr h => ?_
  · obtain ⟨_, args, _, e, rfl, hn, ha, _⟩ := h
    cases e <;> first | exact congrArg Nat.succ (dpa_length ha) | (simp only [Edit.name] at hn; exact absurd hn (by decide))
  · obtain ⟨p, args, st, e, rfl, hn, ha, hpg, ok, hfit, hA⟩ := h
    obtain rfl : e = .undo := by
      cases e <;> first | rfl | (simp only [Edit.name] at hn; exact absurd hn (by decide))
    cases ha
    obtain ⟨dx, v1, v2, v3, v4, v5, v6, hp, V⟩ := id hpg
    have hA : AnsP K H E p C kd _ (if st.busy = true then .error .busy else st.undo) := hA
    refine bl_expr (w_meth0E (E := E) (p := p) (L2N.takes_of rfl rfl rfl rfl) G.cls Gi (hr.mono (by decide)) (v_var 0 rfl (.inl rfl) rfl rfl rfl) hp (fs_no (by decide)) fun H1 e1 => ⟨p, st, rfl, hpg.ex e1, fun hb H2 e2 => ?_, fun hb => by rw [if_pos hb] at hA; exact RsB.ex hA e1⟩)
    rw [if_neg (by rw [hb]; decide)] at hA
    have e12 := e1.trans e2
    have hA2 := hA.ex e12
    have hp2 := e12 _ _ hp
    have V2 := V.fr (M := fun _ => False) (FrI.of e12)
    have hd2 : Dp K H2 v3 (.tuple (st.done.map edD)) := V2.done
    unfold Pg.undo at hA2
    refine bl_when (k := PyData.eqv (.tuple (st.done.map edD)) (.tuple [])) (b_eq (r64 hr) (d_fld (v_var 0 rfl (.inl rfl) rfl rfl rfl) hp2 G.cls (G.na _ (by decide)) rfl hd2) (d_tup a_nil (by decide)) (shaped_done _) shaped_tnil) (fun hk H3 e3 => ?_) fun hk H3 e3 => ?_
    · rw [eqv_tnil] at hk
      have h0 : st.done = [] := by
        cases hs : st.done with
        | nil => rfl
        | cons a l => rw [hs] at hk; cases hk
      rw [if_pos h0] at hA2
      exact bl_raise0 (E := E) (L2N.takes_of rfl rfl rfl rfl) rfl Ce (by rfl) (Rs0.ex hA2 e3)
    rw [eqv_tnil] at hk
    have h0 : ¬ st.done = [] := fun z => by rw [z] at hk; cases hk
    rw [if_neg h0] at hA2
    have hp3 := e3 _ _ hp2
    have V3 := V2.fr (M := fun _ => False) (FrI.of e3)
    have hd3 : Dp K H3 v3 (.tuple (st.done.map edD)) := V3.done
    have hs3 : Dp K H3 v2 (.tuple (st.states.map rowD)) := V3.states
    refine bl_st (ps_asg (pos := _) pp (pg_tup (n := 2) rfl (pgs_cons (pg_fld pp) (pgs_cons (pg_fld pp) pgs_nil)))) ?_
    show WpX _ _ _ _ _
    refine EvP.go (d_tup (ds := [.tuple (st.states.map rowD).dropLast, .tuple (st.done.map edD).dropLast]) (a_cons (EvD.is (d := .tuple (D1.cutD (st.states.map rowD) none (some (-1)))) (d_slT (d_fld (v_var 0 rfl (.inl rfl) rfl rfl rfl) hp3 G.cls (G.na _ (by decide)) rfl hs3) o_none (o_some (d_neg d_int))) (by rw [cut_last])) (a_cons (EvD.is (d := .tuple (D1.cutD (st.done.map edD) none (some (-1)))) (d_slT (d_fld (v_var 0 rfl (.inl rfl) rfl rfl rfl) hp3 G.cls (G.na _ (by decide)) rfl hd3) o_none (o_some (d_neg d_int))) (by rw [cut_last])) a_nil)) (by simp)) fun v H4 e4 hv => ?_
    obtain ⟨a4, xs, rfl, ha4, hxs⟩ := dp_tup hv
    obtain ⟨u2, u3, rfl, hu2, hu3⟩ := dpa2 hxs
    refine ⟨a4, _, rfl, ha4, rfl, u2, _, rfl, ?_⟩
    show WpX _ _ _ _ _
    refine (v_var 0 rfl (.inl rfl) rfl rfl rfl).go fun y H5 e5 hy => ?_
    have hp5 := e5 _ _ (e4 _ _ hp3)
    refine ⟨p, C, dx, _, hy, hp5, G.cls, G.na _ (by decide), Nat.lt_of_lt_of_le fs_few (by decide), u3, [], rfl, ?_⟩
    rw [put_states]
    have f6 : FrI (· = p) H4 (upd H5 p (.ins C dx (fsOf kd.lg v1 u2 v3 v4 v5 v6))) := (FrI.of e5).trans (FrI.upd hp5 trivial rfl)
    have V6 := (V3.fr (M := (· = p)) (FrI.of e4)).fr f6
    have hu2' := f6.dp hu2
    have hu3' := f6.dp hu3
    have hp6 : (upd H5 p (.ins C dx (fsOf kd.lg v1 u2 v3 v4 v5 v6))) p = some (.ins C dx (fsOf kd.lg v1 u2 v3 v4 v5 v6)) := upd_same
    generalize upd H5 p (.ins C dx (fsOf kd.lg v1 u2 v3 v4 v5 v6)) = H6 at f6 V6 hu2' hu3' hp6 ⊢
    show WpX _ _ _ _ _
    refine (v_var 0 rfl (.inl rfl) rfl rfl rfl).go fun y H7 e7 hy => ?_
    have hp7 := e7 _ _ hp6
    refine ⟨p, C, dx, _, hy, hp7, G.cls, G.na _ (by decide), Nat.lt_of_lt_of_le fs_few (by decide), rfl, ?_⟩
    rw [put_done]
    have f8 : FrI (· = p) H6 (upd H7 p (.ins C dx (fsOf kd.lg v1 u2 u3 v4 v5 v6))) := (FrI.of e7).trans (FrI.upd hp7 trivial rfl)
    have V8 := V6.fr f8
    have hs8 : Dp K _ u2 (.tuple ((st.states.map rowD).dropLast)) := f8.dp hu2'
    have hd8 : Dp K _ u3 (.tuple ((st.done.map edD).dropLast)) := f8.dp hu3'
    have hp8 : (upd H7 p (.ins C dx (fsOf kd.lg v1 u2 u3 v4 v5 v6))) p = some (.ins C dx (fsOf kd.lg v1 u2 u3 v4 v5 v6)) := upd_same
    have F8 : FrI (· = p) H2 (upd H7 p (.ins C dx (fsOf kd.lg v1 u2 u3 v4 v5 v6))) := (FrI.of (e3.trans e4)).trans (f6.trans f8)
    generalize upd H7 p (.ins C dx (fsOf kd.lg v1 u2 u3 v4 v5 v6)) = H8 at f8 V8 hs8 hd8 hp8 F8 ⊢
    obtain ⟨st', rfl⟩ : ∃ st' : Pg, st' = { st with now := (st.states.dropLast.getLast?).getD [], states := st.states.dropLast, done := st.done.dropLast } := ⟨_, rfl⟩
    have hok' := Pg.undo_ok (st' := { st with now := (st.states.dropLast.getLast?).getD [], states := st.states.dropLast, done := st.done.dropLast }) ok (by unfold Pg.undo; rw [if_neg h0])
    have hlast : (st.states.map rowD).dropLast.getLast? = some (rowD ((st.states.dropLast.getLast?).getD [])) := by
      have z := hok'.1.last
      rw [← List.map_dropLast, List.getLast?_map]
      show Option.map rowD st.states.dropLast.getLast? = _
      have z' : st.states.dropLast.getLast? = some ((st.states.dropLast.getLast?).getD []) := z
      rw [z']
      rfl
    refine bl_fld (p := p) ((d_ixT (i := -1) (d_fld (v_var 0 rfl (.inl rfl) rfl rfl rfl) hp8 G.cls (G.na _ (by decide)) rfl hs8) (d_neg d_int) (atI_lst hlast)).go fun u1 H9 e9 hu1 => ⟨C, dx, _, v_var 0 rfl (.inl rfl) rfl rfl rfl, e9 _ _ hp8, G.cls, G.na _ (by decide), fs_few, fun H10 e10 => ?_⟩)
    rw [put_now]
    have hp10 := e10 _ _ (e9 _ _ hp8)
    have f11 : FrI (· = p) H8 (upd H10 p (.ins C dx (fsOf kd.lg u1 u2 u3 v4 v5 v6))) := (FrI.of (e9.trans e10)).trans (FrI.upd hp10 trivial rfl)
    have hu11 := ((FrI.of e10).trans (FrI.upd (M := (· = p)) (u := .ins C dx (fsOf kd.lg u1 u2 u3 v4 v5 v6)) hp10 trivial rfl)).dp hu1
    have V11 := V8.fr f11
    have hs11 := f11.dp hs8
    have hd11 := f11.dp hd8
    have hp11 : (upd H10 p (.ins C dx (fsOf kd.lg u1 u2 u3 v4 v5 v6))) p = some (.ins C dx (fsOf kd.lg u1 u2 u3 v4 v5 v6)) := upd_same
    generalize upd H10 p (.ins C dx (fsOf kd.lg u1 u2 u3 v4 v5 v6)) = H11 at f11 hu11 V11 hs11 hd11 hp11 ⊢
    refine bl_ret ((d_lenT (by rfl) B.len (d_fld (v_var 0 rfl (.inl rfl) rfl rfl rfl) hp11 G.cls (G.na _ (by decide)) rfl hd11)).go fun v H12 e12 hv => ?_)
    cases hv
    rw [show (st.done.map edD).dropLast.length = st.done.dropLast.length by simp]
    refine hA2 H12 (F8.trans (f11.trans (FrI.of e12))) ⟨dx, u1, u2, u3, v4, v5, v6, e12 _ _ hp11, dp_ex e12 hu11, ?_, ?_, dp_ex e12 V11.wanted, dp_ex e12 V11.busy, dp_ex e12 V11.log⟩
    · show Dp K H12 u2 (.tuple (st.states.dropLast.map rowD))
      rw [List.map_dropLast]
      exact dp_ex e12 hs11
    · show Dp K H12 u3 (.tuple (st.done.dropLast.map edD))
      rw [List.map_dropLast]
      exact dp_ex e12 hd11
end
end TX
end
section
namespace TX
open PySem PySem.Spec PyProof.Rows L2 Evl W1 D1 MM
/-- a property's promise -/
structure Pf (P : Program) (w : World) (K : PySem.W.Frag) (mg : Str → Option Value) (base : Heap) (k : Nat) (C : Addr) (f : Str) (sp : Sp) : Prop where
  ex : ∃ pr g, PropOf K C f pr g ∧ Ff P w K mg base k g ["self"] sp
section
variable {P : Program} {w : World} {K : PySem.W.Frag} {mg : Str → Option Value} {base : Heap}
/-- answers what r says of the page -/
def S_get (K : PySem.W.Frag) (C : Addr) (kd : PKind) (r : Pg → PyData) : Sp := fun vs H Q _ => ∃ p st, vs = [.ref p] ∧ PgAt K H p C kd st ∧ st.ok kd ∧ ∀ v H', Ex H H' → Dp K H' v (r st) → Q v H'
theorem getE {C : Addr} {kd : PKind} {r : Pg → PyData} {p : Addr} {st : Pg} {H1 H2 : Hp} {vs : List V} {Q : VK} {E : XK} (hv : vs = [.ref p]) (h : PgAt K H1 p C kd st) (ok : st.ok kd) (q : ∀ v H', Ex H1 H' → Dp K H' v (r st) → Q v H') : S_get K C kd r vs H1 Q E := ⟨p, st, hv, h, ok, q⟩
section
variable {X : Cx} {e : Expr} {σ : L2.St} {H : Hp} {pos apos : Pos} {f m : Str} {p C : Addr} {kd : PKind} {st : Pg} {r : Pg → PyData} {k : Nat} {ps : List Str} {pl : Sem Bool}
/-- e.f, a property -/
theorem d_prop (c : Cls X.K C) (F : Pf X.prog X.w X.K X.mg X.base k C f (S_get X.K C kd r)) (hr : Room (k + 1) X.A) (he : EvP X e σ H fun u _ => u = .ref p) (hp : PgAt X.K H p C kd st) (ok : st.ok kd) (hab : attributeBase e f X.env (eval e X.env) = eval e X.env := by rfl) : EvD X (.Attribute e f pos) σ H (r st) := by
  obtain ⟨pr, g, hpr, hF⟩ := F.ex
  obtain ⟨fd, F1, B1⟩ := hF.ex
  refine .of (pe_prop (E := E0') (dvs := []) (ds := []) pp c hpr F1 hr B1 .nil passF hab) fun H1 e1 Q q => he.run H1 e1 _ fun u H2 e2 hu => ?_
  have hp2 := hp.ex (e1.trans e2)
  obtain ⟨dx, v1, v2, v3, v4, v5, v6, h1, V⟩ := id hp2
  exact ⟨p, dx, _, hu, h1, p, st, rfl, hp2, ok, fun v H' e' hv => q v H' (e2.trans e') hv⟩
/-- e.m(), a method that only tells -/
theorem d_get0 (c : Cls X.K C) (M : Mf X.prog X.w X.K X.mg X.base k C m ps (S_get X.K C kd r)) (hr : Room k X.A) (he : EvP X e σ H fun u _ => u = .ref p) (hp : PgAt X.K H p C kd st) (ok : st.ok kd) (hm : m ∉ pgFields)
    (ht : eval (.Call (.Attribute e m apos) [] [] pos) X.env = (do
      let ov ← eval e X.env
      standAt apos.atName
      let (f, first) ← holding [ov] (getMethod ov m pl)
      callWith pos f first (backTo pos (starEach [] X.env)) (backToKw pos (keywordEach [] X.env))) := by rfl) : EvD X (.Call (.Attribute e m apos) [] [] pos) σ H (r st) := ⟨fun H1 e1 Q q => by
  refine w_meth0 (p := p) (E := E0') c M hr passF (he.run H1 e1 _ fun u H2 e2 hu => ?_) ht
  have hp2 := hp.ex (e1.trans e2)
  obtain ⟨dx, v1, v2, v3, v4, v5, v6, h1, V⟩ := id hp2
  exact ⟨hu, dx, _, h1, fs_no hm, p, st, rfl, hp2, ok, fun v H' e' hv => q v H' (e2.trans e') hv⟩⟩
end
def r_row (st : Pg) : PyData := rowD st.now
def r_size (st : Pg) : PyData := .int (st.now.length : Nat)
def r_version (st : Pg) : PyData := .int (st.done.length : Nat)
def r_width (st : Pg) : PyData := optI st.wanted
def r_edits (st : Pg) : PyData := doneD st.done
def r_log (st : Pg) : PyData := logD st.log
def strText (st : Pg) : Str := [sI (st.now.length : Nat), " words, ", sI (st.done.length : Nat), " edits"].foldl (· ++ ·) Str.empty
def r_str (st : Pg) : PyData := .str (strText st)
def linesPg (st : Pg) : Option (List (List Int)) := match st.wanted with
  | none => none
  | some w => if w < MM.maxI st.now then none else some (rowLines st.now (starts st.now w))
def r_lines (st : Pg) : PyData := linesD (linesPg st)
section
variable {C g : Addr} {kd : PKind} (G : PgC K C)
include G
theorem row_ok (D : Fm K g "row" "Page.row" s_Page_row) : Ff P w K mg base 1 g ["self"] (S_get K C kd r_row) := by
  refine D.ff 0 sc_Page_row (fun vs H Q E h => ?_) (fun _ _ _ _ _ _ us hl => match us, hl with | [_], _ => rfl) fun f cdv A outer s H vs Q E hr h => ?_
  · obtain ⟨_, _, rfl, _⟩ := h
    rfl
  · obtain ⟨p, st, rfl, hpg, ok, hQ⟩ := h
    obtain ⟨dx, v1, v2, v3, v4, v5, v6, hp, V⟩ := id hpg
    exact bl_retD (d_fld (v_var 0 rfl (.inl rfl) rfl rfl rfl) hp G.cls (G.na _ (by decide)) rfl V.now) rfl hQ
theorem width_ok (D : Fm K g "width" "Page.width" s_Page_width) : Ff P w K mg base 1 g ["self"] (S_get K C kd r_width) := by
  refine D.ff 0 sc_Page_width (fun vs H Q E h => ?_) (fun _ _ _ _ _ _ us hl => match us, hl with | [_], _ => rfl) fun f cdv A outer s H vs Q E hr h => ?_
  · obtain ⟨_, _, rfl, _⟩ := h
    rfl
  · obtain ⟨p, st, rfl, hpg, ok, hQ⟩ := h
    obtain ⟨dx, v1, v2, v3, v4, v5, v6, hp, V⟩ := id hpg
    exact bl_retD (d_fld (v_var 0 rfl (.inl rfl) rfl rfl rfl) hp G.cls (G.na _ (by decide)) rfl V.wanted) rfl hQ
theorem edits_ok (D : Fm K g "edits" "Page.edits" s_Page_edits) : Ff P w K mg base 1 g ["self"] (S_get K C kd r_edits) := by
  refine D.ff 0 sc_Page_edits (fun vs H Q E h => ?_) (fun _ _ _ _ _ _ us hl => match us, hl with | [_], _ => rfl) fun f cdv A outer s H vs Q E hr h => ?_
  · obtain ⟨_, _, rfl, _⟩ := h
    rfl
  · obtain ⟨p, st, rfl, hpg, ok, hQ⟩ := h
    obtain ⟨dx, v1, v2, v3, v4, v5, v6, hp, V⟩ := id hpg
    exact bl_retD (d_fld (v_var 0 rfl (.inl rfl) rfl rfl rfl) hp G.cls (G.na _ (by decide)) rfl V.done) rfl hQ
theorem log_ok (hlg : kd.lg = true) (D : Fm K g "log" "LoggedPage.log" s_LoggedPage_log) : Ff P w K mg base 1 g ["self"] (S_get K C kd r_log) := by
  refine D.ff 0 sc_LoggedPage_log (fun vs H Q E h => ?_) (fun _ _ _ _ _ _ us hl => match us, hl with | [_], _ => rfl) fun f cdv A outer s H vs Q E hr h => ?_
  · obtain ⟨_, _, rfl, _⟩ := h
    rfl
  · obtain ⟨p, st, rfl, hpg, ok, hQ⟩ := h
    obtain ⟨dx, v1, v2, v3, v4, v5, v6, hp, V⟩ := id hpg
    rw [hlg] at hp
    exact bl_retD (d_fld (v_var 0 rfl (.inl rfl) rfl rfl rfl) hp G.cls (G.na _ (by decide)) rfl V.log) rfl hQ
theorem size_ok (B : Bi mg) (D : Fm K g "size" "Page.size" s_Page_size) : Ff P w K mg base 1 g ["self"] (S_get K C kd r_size) := by
  refine D.ff 0 sc_Page_size (fun vs H Q E h => ?_) (fun _ _ _ _ _ _ us hl => match us, hl with | [_], _ => rfl) fun f cdv A outer s H vs Q E hr h => ?_
  · obtain ⟨_, _, rfl, _⟩ := h
    rfl
  · obtain ⟨p, st, rfl, hpg, ok, hQ⟩ := h
    obtain ⟨dx, v1, v2, v3, v4, v5, v6, hp, V⟩ := id hpg
    have hd : Dp K H v1 (.tuple (st.now.map .int)) := V.now
    exact bl_retD (d_lenT (by rfl) B.len (d_fld (v_var 0 rfl (.inl rfl) rfl rfl rfl) hp G.cls (G.na _ (by decide)) rfl hd)) (by rw [List.length_map]; rfl) hQ
theorem version_ok (B : Bi mg) (D : Fm K g "version" "Page.version" s_Page_version) : Ff P w K mg base 1 g ["self"] (S_get K C kd r_version) := by
  refine D.ff 0 sc_Page_version (fun vs H Q E h => ?_) (fun _ _ _ _ _ _ us hl => match us, hl with | [_], _ => rfl) fun f cdv A outer s H vs Q E hr h => ?_
  · obtain ⟨_, _, rfl, _⟩ := h
    rfl
  · obtain ⟨p, st, rfl, hpg, ok, hQ⟩ := h
    obtain ⟨dx, v1, v2, v3, v4, v5, v6, hp, V⟩ := id hpg
    have hd : Dp K H v3 (.tuple (st.done.map edD)) := V.done
    exact bl_retD (d_lenT (by rfl) B.len (d_fld (v_var 0 rfl (.inl rfl) rfl rfl rfl) hp G.cls (G.na _ (by decide)) rfl hd)) (by rw [List.length_map]; rfl) hQ
theorem len_ok (B : Bi mg) (D : Fm K g "__len__" "Page.__len__" s_Page_len) : Ff P w K mg base 1 g ["self"] (S_get K C kd r_version) := by
  refine D.ff 0 sc_Page_len (fun vs H Q E h => ?_) (fun _ _ _ _ _ _ us hl => match us, hl with | [_], _ => rfl) fun f cdv A outer s H vs Q E hr h => ?_
  · obtain ⟨_, _, rfl, _⟩ := h
    rfl
  · obtain ⟨p, st, rfl, hpg, ok, hQ⟩ := h
    obtain ⟨dx, v1, v2, v3, v4, v5, v6, hp, V⟩ := id hpg
    have hd : Dp K H v3 (.tuple (st.done.map edD)) := V.done
    exact bl_retD (d_lenT (by rfl) B.len (d_fld (v_var 0 rfl (.inl rfl) rfl rfl rfl) hp G.cls (G.na _ (by decide)) rfl hd)) (by rw [List.length_map]; rfl) hQ
theorem str_ok (B : Bi mg) (D : Fm K g "__str__" "Page.__str__" s_Page_str) : Ff P w K mg base 1 g ["self"] (S_get K C kd r_str) := by
  refine D.ff 0 sc_Page_str (fun vs H Q E h => ?_) (fun _ _ _ _ _ _ us hl => match us, hl with | [_], _ => rfl) fun f cdv A outer s H vs Q E hr h => ?_
  · obtain ⟨_, _, rfl, _⟩ := h
    rfl
  · obtain ⟨p, st, rfl, hpg, ok, hQ⟩ := h
    obtain ⟨dx, v1, v2, v3, v4, v5, v6, hp, V⟩ := id hpg
    have hd : Dp K H v3 (.tuple (st.done.map edD)) := V.done
    have hn : Dp K H v1 (.tuple (st.now.map .int)) := V.now
    have h1 := ok.now.1.few
    have h2 := ok.few
    have l1 := sI_len (i := ((st.now.length : Nat) : Int)) (by omega) (by omega)
    have l2 := sI_len (i := ((st.done.length : Nat) : Int)) (by omega) (by omega)
    refine bl_retD (d := .str ([sI (st.now.length : Nat), " words, ", sI (st.done.length : Nat), " edits"].foldl (· ++ ·) Str.empty)) (d_joined (.cons (EvD.is (d_fmtI (i := (((st.now.map PyData.int).length : Nat) : Int)) (d_lenT (by rfl) B.len (d_fld (v_var 0 rfl (.inl rfl) rfl rfl rfl) hp G.cls (G.na _ (by decide)) rfl hn)) (by simp; omega)) (by rw [List.length_map]; rfl)) (.cons d_str (.cons (EvD.is (d_fmtI (i := (((st.done.map edD).length : Nat) : Int)) (d_lenT (by rfl) B.len (d_fld (v_var 0 rfl (.inl rfl) rfl rfl rfl) hp G.cls (G.na _ (by decide)) rfl hd)) (by simp; omega)) (by rw [List.length_map]; rfl)) (.cons d_str .nil)))) ?_) rfl hQ
    show (sI _).length + (8 + ((sI _).length + (6 + 0))) ≤ _
    omega
end
end
end TX
end
section
namespace TX
open PySem PySem.Spec PyProof.Rows L2 Evl W1 D1 MM
section
variable {P : Program} {w : World} {K : PySem.W.Frag} {mg : Str → Option Value} {base : Heap}
theorem so_le2 (r : List Int) (w : Int) : ∀ (n k : Nat), r.length - k ≤ n → ∀ s ∈ so r w k, s ≤ r.length
  | n, k, hn, s, hs => by
    unfold so at hs
    split at hs
    · rename_i hk
      rcases List.mem_cons.mp hs with rfl | hs
      · omega
      · cases n with
        | zero => omega
        | succ n =>
          have := lt_next r w k
          exact so_le2 r w n (nextStart r w k) (by omega) s hs
    · cases hs
theorem starts_le2 (r : List Int) (w : Int) : ∀ s ∈ starts r w, s ≤ r.length := fun s hs => by
  rcases List.mem_cons.mp hs with rfl | hs
  · omega
  · exact so_le2 r w _ _ (Nat.le_refl _) s hs
section
variable {C g : Addr} {kd : PKind} (G : PgC K C)
include G
theorem lines_ok (D : Fm K g "lines" "Page.lines" s_Page_lines) (Gl1 : Gf P w K mg base 1 "longest" P_longest (Spf K R_longest)) (G2 : Gf P w K mg base 3 "starts_of" P_starts_of (Spf K R_starts_of)) (G3 : Gf P w K mg base 1 "lines_of" P_lines_of (Spf K R_lines_of)) : Ff P w K mg base 4 g ["self"] (S_get K C kd r_lines) := by
  refine D.ff 3 sc_Page_lines (fun vs H Q E h => ?_) (fun _ _ _ _ _ _ us hl => match us, hl with | [_], _ => rfl) fun f cdv A outer s H vs Q E hr h => ?_
  · obtain ⟨_, _, rfl, _⟩ := h
    rfl
  · obtain ⟨p, st, rfl, hpg, ok, hQ⟩ := h
    obtain ⟨dx, v1, v2, v3, v4, v5, v6, hp, V⟩ := id hpg
    have hn : Dp K H v1 (.tuple (st.now.map .int)) := V.now
    have hrow := ok.now.1
    have h1 := hrow.pos
    have h2 := hrow.few
    cases hw : st.wanted with
    | none =>
      have hwd : Dp K H v4 .none := by have := V.wanted; rw [hw] at this; exact this
      have hr0 : r_lines st = .none := by unfold r_lines linesPg; rw [hw]; rfl
      rw [hr0] at hQ
      exact bl_when (k := isNo .none || false) (EvW.tob (w_or (b_isN (d_fld (v_var 0 rfl (.inl rfl) rfl rfl rfl) hp G.cls (G.na _ (by decide)) rfl hwd)) fun h => by cases h)) (fun _ H1 e1 => bl_retD d_none rfl fun v H2 e2 hv => hQ v H2 (e1.trans e2) hv) (fun hk => by cases hk)
    | some wd =>
      have hwd : Dp K H v4 (.int wd) := by have := V.wanted; rw [hw] at this; exact this
      refine bl_when (k := isNo (.int wd) || decide (wd < MM.maxI st.now)) (EvW.tob (w_or (b_isN (d_fld (v_var 0 rfl (.inl rfl) rfl rfl rfl) hp G.cls (G.na _ (by decide)) rfl hwd)) fun h => w_or1 (b_gt (d_call Gl1 (hr.mono (by decide)) (by rfl) (ds := [rowD st.now]) (a_cons (d_fld (v_var 0 rfl (.inl rfl) rfl rfl rfl) hp G.cls (G.na _ (by decide)) rfl V.now) a_nil) ⟨st.now, rfl, h1, rfl⟩) (d_fld (v_var 0 rfl (.inl rfl) rfl rfl rfl) hp G.cls (G.na _ (by decide)) rfl hwd)))) (fun hk H1 e1 => ?_) fun hk H1 e1 => ?_
      · have hlt : wd < MM.maxI st.now := of_decide_eq_true (by simpa [isNo] using hk)
        have hr0 : r_lines st = .none := by unfold r_lines linesPg; rw [hw]; simp only; rw [if_pos hlt]; rfl
        rw [hr0] at hQ
        exact bl_retD d_none rfl fun v H2 e2 hv => hQ v H2 (e1.trans e2) hv
      · have hlt : ¬ wd < MM.maxI st.now := of_decide_eq_false (by simpa [isNo] using hk)
        have hr0 : r_lines st = .tuple ((rowLines st.now (starts st.now wd)).map rowD) := by unfold r_lines linesPg; rw [hw]; simp only; rw [if_neg hlt]; rfl
        rw [hr0] at hQ
        have hp1 := e1 _ _ hp
        have V1 := V.fr (M := fun _ => False) (FrI.of e1)
        have hwd1 := dp_ex e1 hwd
        have hsl := starts_len st.now wd h1
        exact bl_retD (d_call G3 (hr.mono (by decide)) (by rfl) (ds := [rowD st.now, natsD (starts st.now wd)]) (a_cons (d_fld (v_var 0 rfl (.inl rfl) rfl rfl rfl) hp1 G.cls (G.na _ (by decide)) rfl V1.now) (a_cons (d_call G2 hr (by rfl) (ds := [rowD st.now, .int wd]) (a_cons (d_fld (v_var 0 rfl (.inl rfl) rfl rfl rfl) hp1 G.cls (G.na _ (by decide)) rfl V1.now) (a_cons (d_fld (v_var 0 rfl (.inl rfl) rfl rfl rfl) hp1 G.cls (G.na _ (by decide)) rfl hwd1) a_nil)) ⟨st.now, wd, rfl, h1, by omega, rfl⟩) a_nil)) ⟨st.now, _, rfl, (by show 1 ≤ (0 :: _ : List Nat).length; simp), by omega, starts_le2 st.now wd, rfl⟩) rfl fun v H2 e2 hv => hQ v H2 (e1.trans e2) hv
def okW (wo : Option Int) : Prop := ∀ w, wo = some w → 1 ≤ w ∧ w ≤ 2000
def S_setw (K : PySem.W.Frag) (C : Addr) (kd : PKind) : Sp := fun vs H Q E => ∃ p st x wo, vs = [.ref p, x] ∧ PgAt K H p C kd st ∧ Dp K H x (optI wo) ∧ (okW wo → ∀ H', FrI (· = p) H H' → PgAt K H' p C kd { st with wanted := wo } → Q .non H') ∧ (¬ okW wo → RsB K H E .noWidth)
theorem setw_ok (D : Fm K g "width" "Page.width" s_Page_width_set) (Gc : Gf P w K mg base 3 "check_width" P_check_width (S_check_width K)) : Ff P w K mg base 4 g P_Page_width_set (S_setw K C kd) := by
  refine D.ff 3 sc_Page_width_set (fun vs H Q E h => ?_) (fun _ _ _ _ _ _ us hl => match us, hl with | [_, _], _ => rfl) fun f cdv A outer s H vs Q E hr h => ?_
  · obtain ⟨_, _, _, _, rfl, _⟩ := h
    rfl
  · obtain ⟨p, st, x, wo, rfl, hpg, hx, h1, h2⟩ := h
    obtain ⟨dx, v1, v2, v3, v4, v5, v6, hp, V⟩ := id hpg
    have fin : okW wo → ∀ H1, Ex H H1 → BlX (cX P w K mg base N_Page_width_set "Page.width" s_Page_width_set f cdv A outer s H E) ((defBody s_Page_width_set).drop 1) (start N_Page_width_set [.ref p, x]) H1 { nx := fun _ H' => Q .non H', rt := Q } := fun hw H1 e1 => by
      refine bl_fld (p := p) ((v_var 1 rfl (.inl rfl) rfl rfl rfl).go fun u H2 e2 hu => ⟨C, dx, _, v_var 0 rfl (.inl rfl) rfl rfl rfl, e2 _ _ (e1 _ _ hp), G.cls, G.na _ (by decide), fs_few, fun H3 e3 => ?_⟩)
      subst hu
      rw [put_wanted]
      have e13 := e1.trans (e2.trans e3)
      have hp3 := e13 _ _ hp
      have f3 : FrI (· = p) H (upd H3 p (.ins C dx (fsOf kd.lg v1 v2 v3 u v5 v6))) := (FrI.of e13).trans (FrI.upd hp3 trivial rfl)
      have V3 := V.fr f3
      exact bl_nil (h1 hw _ f3 ⟨dx, v1, v2, v3, u, v5, v6, upd_same, V3.now, V3.states, V3.done, f3.dp hx, V3.busy, V3.log⟩)
    cases wo with
    | none =>
      exact bl_when (k := !isNo .none) (b_notN (by walk_at "var")) (fun hk => by cases hk) fun _ H1 e1 => fin (fun w hw => by cases hw) H1 e1
    | some wd =>
      cases (show Dp K H x (.int wd) from hx)
      refine bl_when (k := !isNo (.int wd)) (b_notN (by walk_at "var")) (fun _ H1 e1 => ?_) fun hk => by cases hk
      refine bl_expr (w_callE (E := E) (L2N.takes_of rfl rfl rfl rfl) Gc hr (by rfl) (ds := [.int wd]) (by walk_at "ea") fun vs H2 e2 hvs => ⟨wd, hvs, fun hw H3 e3 => ?_, fun hw => ?_⟩)
      · exact bl_nil (fin (fun w hw' => by cases hw'; exact hw) H3 (e1.trans (e2.trans e3)))
      · exact RsB.ex (h2 fun z => hw (z wd rfl)) (e1.trans e2) (.int wd)
def S_look (K : PySem.W.Frag) (C : Addr) (kd : PKind) : Sp := fun vs H Q E => ∃ p st x wo, vs = [.ref p, x] ∧ PgAt K H p C kd st ∧ st.ok kd ∧ Dp K H x (optI wo) ∧ (okW wo → ∀ v H', FrI (· = p) H H' → PgAt K H' p C kd { st with wanted := wo } → Dp K H' v (r_lines { st with wanted := wo }) → Q v H') ∧ (¬ okW wo → RsB K H E .noWidth)
theorem want_ok {st : Pg} {wo : Option Int} (ok : st.ok kd) (h : okW wo) : Pg.ok kd { st with wanted := wo } := ⟨ok.rows, ok.len, ok.last, ok.few, ok.fit, h, ok.log⟩
theorem look_ok {pr gs : Addr} (D : Fm K g "look" "Page.look" s_Page_look) (PS : SetOf K C "width" pr gs) (Fs : Ff P w K mg base 4 gs P_Page_width_set (S_setw K C kd)) (Fl : Pf P w K mg base 4 C "lines" (S_get K C kd r_lines)) : Ff P w K mg base 7 g P_Page_look (S_look K C kd) := by
  refine D.ff 6 sc_Page_look (fun vs H Q E h => ?_) (fun _ _ _ _ _ _ us hl => match us, hl with | [_, _], _ => rfl) fun f cdv A outer s H vs Q E hr h => ?_
  · obtain ⟨_, _, _, _, rfl, _⟩ := h
    rfl
  · obtain ⟨p, st, x, wo, rfl, hpg, ok, hx, h1, h2⟩ := h
    obtain ⟨dx, v1, v2, v3, v4, v5, v6, hp, V⟩ := id hpg
    refine bl_st (ps_setprop (C := C) (E := E) pp pp G.cls PS Fs.raw hr (L2N.passes_call (L2N.takes_of rfl rfl rfl rfl) (fun _ _ _ _ z => z)) (by rfl)) ?_
    show WpX _ _ _ _ _
    refine (v_var 1 rfl (.inl rfl) rfl rfl rfl).go fun u H1 e1 hu => ?_
    subst hu
    show WpX _ _ _ _ _
    refine (v_var 0 rfl (.inl rfl) rfl rfl rfl).go fun y H2 e2 hy => ?_
    have e12 := e1.trans e2
    refine ⟨p, dx, _, hy, e12 _ _ hp, p, st, u, wo, rfl, hpg.ex e12, dp_ex e12 hx, fun hw H3 f3 hp3 => ?_, fun hw => RsB.ex (h2 hw) e12⟩
    exact bl_retD (d_prop G.cls Fl (hr.mono (by decide)) (v_var 0 rfl (.inl rfl) rfl rfl rfl) hp3 (want_ok G ok hw)) rfl fun v H4 e4 hv => h1 hw v H4 ((FrI.of e12).trans (f3.trans (FrI.of e4))) (hp3.ex e4) hv
/-- page[place] -/
def S_item (K : PySem.W.Frag) (C : Addr) (kd : PKind) : Sp := fun vs H Q E => ∃ p st i, vs = [.ref p, .int i] ∧ PgAt K H p C kd st ∧ st.ok kd ∧ (0 ≤ i ∧ i < st.now.length → ∀ H', Ex H H' → Q (.int (st.now.getD i.toNat 0)) H') ∧ (¬ (0 ≤ i ∧ i < st.now.length) → RsB K H E .noPlace)
theorem item_ok (D : Fm K g "__getitem__" "Page.__getitem__" s_Page_getitem) (Gc : Gf P w K mg base 3 "check_place" P_check_place (S_check_place K)) : Ff P w K mg base 4 g P_Page_getitem (S_item K C kd) := by
  refine D.ff 3 sc_Page_getitem (fun vs H Q E h => ?_) (fun _ _ _ _ _ _ us hl => match us, hl with | [_, _], _ => rfl) fun f cdv A outer s H vs Q E hr h => ?_
  · obtain ⟨_, _, _, rfl, _⟩ := h
    rfl
  · obtain ⟨p, st, i, rfl, hpg, ok, h1, h2⟩ := h
    obtain ⟨dx, v1, v2, v3, v4, v5, v6, hp, V⟩ := id hpg
    refine bl_expr (w_callE (E := E) (L2N.takes_of rfl rfl rfl rfl) Gc hr (by rfl) (ds := [rowD st.now, .int i]) (a_cons (d_fld (v_var 0 rfl (.inl rfl) rfl rfl rfl) hp G.cls (G.na _ (by decide)) rfl V.now) (by walk_at "ea")) fun vs H2 e2 hvs => ⟨st.now, i, hvs, fun hi H3 e3 => ?_, fun hi => RsB.ex (h2 hi) e2 (.int i)⟩)
    have e23 := e2.trans e3
    have hp3 := e23 _ _ hp
    have hn : Dp K H3 v1 (.tuple (st.now.map .int)) := dp_ex e23 V.now
    have hlt : i.toNat < st.now.length := by omega
    have hat : atI (st.now.map PyData.int) i = some (.int (st.now.getD i.toNat 0)) := by
      rw [show i = ((i.toNat : Nat) : Int) by omega]
      refine atI_nat ?_
      rw [List.getElem?_map, show (((i.toNat : Nat) : Int)).toNat = i.toNat by omega, List.getElem?_eq_getElem hlt, List.getD_eq_getElem?_getD, List.getElem?_eq_getElem hlt]
      rfl
    exact bl_ret ((d_ixT (d_fld (v_var 0 rfl (.inl rfl) rfl rfl rfl) hp3 G.cls (G.na _ (by decide)) rfl hn) (by walk_at "var") hat).go fun v H4 e4 hv => by cases hv; exact h1 hi H4 (e23.trans e4))
end
end
end TX
end
section
namespace TX
open PySem PySem.Spec PyProof.Rows L2 Evl W1 D1 MM
/-- a def with super() in it, written in the class D -/
structure Sm (P : Program) (K : PySem.W.Frag) (g D : Addr) (m qual : Str) (st : Stmt) (ps : List Str) : Prop where
  ex : ∃ c kV doc pm an cdv ct oc od osl, SFr P K g c D m qual (defArgs st) (defBody st) (defScope st) .none kV doc pm an cdv ct oc od osl ps ∧ PySem.W.codeIn K cdv qual = true
section
variable {P : Program} {w : World} {K : PySem.W.Frag} {mg : Str → Option Value} {base : Heap}
theorem fnok_imp {k : Nat} {f : Addr} {fd : FuncData} {ps : List Str} {CX : CXT} {sp sp' : Sp} (F : FnOk P w K mg base CX k f fd ps sp) (h : ∀ vs H Q E, sp' vs H Q E → sp vs H Q E) : FnOk P w K mg base CX k f fd ps sp' :=
  ⟨fun vs H Q E z => F.len vs H Q E (h _ _ _ _ z), fun A outer s H args us vs Q E hr e0 hb r z => F.run A outer s H args us vs Q E hr e0 hb r (h _ _ _ _ z)⟩
theorem Ff.imp {k : Nat} {g : Addr} {ps : List Str} {sp sp' : Sp} (F : Ff P w K mg base k g ps sp) (h : ∀ vs H Q E, sp' vs H Q E → sp vs H Q E) : Ff P w K mg base k g ps sp' := by
  obtain ⟨fd, h1, h2⟩ := F.ex
  exact ⟨fd, fnok_imp h1 h, h2⟩
theorem Sm.ff {g D : Addr} {m qual : Str} {st : Stmt} {ps : List Str} (T : Sm P K g D m qual st ps) (k : Nat) {sp : Sp} (len : ∀ vs H Q E, sp vs H Q E → vs.length = ps.length)
    (hb : ∀ (kV doc pm : Value) (an : Option Addr) (cdv ct : Value) (c : Addr) (us : List Value), us.length = ps.length → bindArgs (fnS m qual (defArgs st) (defBody st) (defScope st) .none kV doc pm an cdv ct c) ⟨us, []⟩ = pure (ps.zip us))
    (hbody : ∀ c kV doc pm an cdv ct oc od osl, SFr P K g c D m qual (defArgs st) (defBody st) (defScope st) .none kV doc pm an cdv ct oc od osl ps → ∀ (A : Around) (outer : List Env) (s : Shared) (H : Hp) (vs : List V) (Q : VK) (E : XK), Room k (cxS (L2N.CX P w) P w K mg base ps qual (defScope st) g cdv c A outer s H E).A → sp vs H Q E →
      BodyS (cxS (L2N.CX P w) P w K mg base ps qual (defScope st) g cdv c A outer s H E) (defBody st) vs H Q) : Ff P w K mg base (k + 1) g ps sp := by
  obtain ⟨c, kV, doc, pm, an, cdv, ct, oc, od, osl, S, hcd⟩ := T.ex
  refine ⟨_, fn_ofS S.lk hcd S.scope S.cell len (fun A outer s H vs Q E hr h => hbody c kV doc pm an cdv ct oc od osl S A outer s H vs Q E hr h), fun s us _ hl => ?_⟩
  rw [List.append_nil] at hl ⊢
  exact BindsTo.of_eq (hb _ _ _ _ _ _ _ _ hl)
/-! ### notes -/
def S_noted (K : PySem.W.Frag) (C : Addr) (kd : PKind) : Sp := fun vs H Q _ => ∃ p st x n i, vs = [.ref p, x, .int i] ∧ PgAt K H p C kd st ∧ Dp K H x (.str n) ∧ st.log.length ≤ 1000 ∧ ∀ H', FrI (· = p) H H' → PgAt K H' p C kd { st with log := st.log ++ [(n, i)] } → Q (.int i) H'
theorem noted_ok {g C : Addr} {kd : PKind} (hlg : kd.lg = true) (G : PgC K C) (D : Fm K g "noted" "LoggedPage.noted" s_LoggedPage_noted) : Ff P w K mg base 1 g P_LoggedPage_noted (S_noted K C kd) := by
  refine D.ff 0 sc_LoggedPage_noted (fun vs H Q E h => ?_) (fun _ _ _ _ _ _ us hl => match us, hl with | [_, _, _], _ => rfl) fun f cdv A outer s H vs Q E hr h => ?_
  · obtain ⟨_, _, _, _, _, rfl, _⟩ := h
    rfl
  · obtain ⟨p, st, x, n, i, rfl, hpg, hx, hl, hQ⟩ := h
    obtain ⟨dx, v1, v2, v3, v4, v5, v6, hp, V⟩ := id hpg
    rw [hlg] at hp
    have hd : Dp K H v6 (.tuple (st.log.map fun q => .tuple [.str q.1, .int q.2])) := V.log
    refine bl_fld (p := p) ((d_tup (ds := (st.log.map fun q => .tuple [.str q.1, .int q.2]) ++ [.tuple [.str n, .int i]]) (a_starT (d_fld (v_var 0 rfl (.inl rfl) rfl rfl rfl) hp G.cls (G.na _ (by decide)) rfl hd) (a_cons (d_tup (ds := [.str n, .int i]) (by walk_at "ea") (by simp)) a_nil)) (by simp; omega)).go fun u H1 e1 hu => ⟨C, dx, _, v_var 0 rfl (.inl rfl) rfl rfl rfl, e1 _ _ hp, G.cls, G.na _ (by decide), fs_few, fun H2 e2 => ?_⟩)
    rw [put_rows]
    have hp2 := e2 _ _ (e1 _ _ hp)
    have f3 : FrI (· = p) H (upd H2 p (.ins C dx (fsOf true v1 v2 v3 v4 v5 u))) := (FrI.of (e1.trans e2)).trans (FrI.upd hp2 trivial rfl)
    have V3 := V.fr f3
    have hu3 := ((FrI.of e2).trans (FrI.upd (M := (· = p)) (u := .ins C dx (fsOf true v1 v2 v3 v4 v5 u)) hp2 trivial rfl)).dp hu
    refine bl_ret ((v_var 2 rfl (.inl rfl) rfl rfl rfl).go fun y H4 e4 hy => ?_)
    rw [hy]
    refine hQ H4 (f3.trans (FrI.of e4)) ⟨dx, v1, v2, v3, v4, v5, u, by rw [hlg]; exact e4 _ _ upd_same, dp_ex e4 V3.now, dp_ex e4 V3.states, dp_ex e4 V3.done, dp_ex e4 V3.wanted, dp_ex e4 V3.busy, dp_ex e4 ?_⟩
    rw [show (PyData.tuple [.str n, .int i]) = (fun q : Str × Int => PyData.tuple [.str q.1, .int q.2]) (n, i) from rfl, map_cat] at hu3
    exact hu3
/-- the class's own method nm -/
def S_act (K : PySem.W.Frag) (C : Addr) (kd : PKind) (nm : Str) : Sp := fun vs H Q E => ∃ p args st e, vs = .ref p :: args ∧ Edit.name e = nm ∧ DpAll K H args (Edit.args e) ∧ PgAt K H p C kd st ∧ st.ok kd ∧ st.log.length ≤ 1000 ∧ (st.busy = false → Edit.can e) ∧ AnsP K H E p C kd (fun st' H' => Q (.int (st'.done.length : Nat)) H') (st.act kd e)
theorem nm_eq (e : Edit) : e.nm = Edit.name e := by cases e <;> rfl
/-- a class that notes nothing -/
theorem act_plain {g C : Addr} {kd : PKind} {k : Nat} {ps : List Str} {nm : Str} (hlg : kd.lg = false) (F : Ff P w K mg base k g ps (S_do K C kd nm (Pg.alone kd))) : Ff P w K mg base k g ps (S_act K C kd nm) := F.imp fun vs H Q E ⟨p, args, st, e, hv, hn, ha, hp, ok, _, hc, hA⟩ => ⟨p, args, st, e, hv, hn, ha, hp, ok, hc, by
  have z : st.act kd e = st.alone kd e := by
    unfold Pg.act
    cases st.alone kd e with
    | error b => rfl
    | ok s => show Except.ok (Pg.note kd e.nm s) = _; unfold Pg.note; rw [hlg]; rfl
  rw [z] at hA
  exact hA⟩
/-- one that notes: what the plain method answers, noted -/
theorem act_of {H : Hp} {p C : Addr} {kd : PKind} {E : XK} {Q : VK} {st : Pg} {e : Edit} (hlg : kd.lg = true) (hA : AnsP K H E p C kd (fun st' H' => Q (.int (st'.done.length : Nat)) H') (st.act kd e)) :
    AnsP K H E p C kd (fun st' H' => ∀ H'', FrI (· = p) H' H'' → PgAt K H'' p C kd { st' with log := st'.log ++ [(Edit.name e, (st'.done.length : Int))] } → Q (.int (st'.done.length : Nat)) H'') (st.alone kd e) := by
  unfold Pg.act at hA
  cases ho : st.alone kd e with
  | error b => rw [ho] at hA; exact hA
  | ok s =>
    rw [ho] at hA
    intro H1 f1 hp1 H2 f2 hp2
    have z : Pg.note kd e.nm s = { s with log := s.log ++ [(Edit.name e, (s.done.length : Int))] } := by unfold Pg.note; rw [hlg, nm_eq]; rfl
    have hA' : ∀ H', FrI (· = p) H H' → PgAt K H' p C kd (Pg.note kd e.nm s) → Q (.int ((Pg.note kd e.nm s).done.length : Nat)) H' := hA
    rw [z] at hA'
    exact hA' H2 (f1.trans f2) hp2
theorem alone_log {kd : PKind} {st st' : Pg} {e : Edit} (h : st.alone kd e = .ok st') : st'.log = st.log := by
  unfold Pg.alone at h
  split at h
  · cases h
  · split at h
    · unfold Pg.undo at h
      split at h
      · cases h
      · cases h; rfl
    · unfold Pg.perform at h
      split at h
      · cases h
      · split at h
        · cases h
        · split at h
          · cases h; rfl
          · cases h
theorem note_end {H : Hp} {p C : Addr} {kd : PKind} {E : XK} {Q : VK} {st : Pg} {e : Edit} {x : V} (hlog : st.log.length ≤ 1000) (hx : Dp K H x (.str (Edit.name e)))
    (hA : AnsP K H E p C kd (fun st' H' => ∀ H'', FrI (· = p) H' H'' → PgAt K H'' p C kd { st' with log := st'.log ++ [(Edit.name e, (st'.done.length : Int))] } → Q (.int (st'.done.length : Nat)) H'') (st.alone kd e)) :
    AnsP K H E p C kd (fun st' H' => S_noted K C kd [.ref p, x, .int (st'.done.length : Nat)] H' Q E) (st.alone kd e) := by
  cases ho : st.alone kd e with
  | error b => rw [ho] at hA; exact hA
  | ok s =>
    rw [ho] at hA
    intro H1 f1 hp1
    exact ⟨p, s, x, _, _, rfl, hp1, f1.dp hx, by rw [alone_log ho]; exact hlog, fun H2 f2 hp2 => hA H1 f1 hp1 H2 f2 hp2⟩
theorem lput_ok {g g0 C D : Addr} {kd : PKind} (hlg : kd.lg = true) (G : PgC K C) (B : Bi mg) (T : Sm P K g D "put" "LoggedPage.put" s_LoggedPage_put P_LoggedPage_put) (U : ∃ mro, SupF K mro D C g0 "put") (F0 : Ff P w K mg base 8 g0 P_Page_put (S_do K C kd "put" (Pg.alone kd))) (Gn : Mf P w K mg base 1 C "noted" P_LoggedPage_noted (S_noted K C kd)) : Ff P w K mg base 9 g P_LoggedPage_put (S_act K C kd "put") := by
  refine T.ff 8 (fun vs H Q E h => ?_) (fun _ _ _ _ _ _ _ us hl => match us, hl with | [_, _, _], _ => rfl) fun c kV doc pm an cdv ct oc od osl S A outer s H vs Q E hr h => ?_
  · obtain ⟨_, args, _, e, rfl, hn, ha, _⟩ := h
    cases e <;> first | exact congrArg Nat.succ (dpa_length ha) | (simp only [Edit.name] at hn; exact absurd hn (by decide))
  · obtain ⟨p, args, st, e, rfl, hn, ha, hpg, ok, hlog, hfit, hA⟩ := h
    cases e with
    | put a l =>
      obtain ⟨mro, U⟩ := U
      obtain ⟨f, fd, hm, Fn, Bn⟩ := Gn.ex
      obtain ⟨x, y, rfl, hx, hy⟩ := dpa2 ha
      obtain ⟨dx, v1, v2, v3, v4, v5, v6, hp, V⟩ := id hpg
      have hA := act_of hlg hA
      refine body_ret (pes_meth2 (C := C) (E := E) pp G.cls hm Fn (hr.mono (by decide)) Bn (L2N.passes_call (L2N.takes_of rfl rfl rfl rfl) (fun _ _ _ _ z => z)) pp (pes_super (C := C) (E := E) rfl S B.super U F0.raw hr (L2N.passes_call (L2N.takes_of rfl rfl rfl rfl) (fun _ _ _ _ z => z)) aa)) ?_
      show WpX _ _ _ _ _
      refine (v_var 0 rfl (.inl rfl) rfl rfl rfl).go fun u H1 e1 hu => ⟨p, dx, _, hu, e1 _ _ hp, fs_no (by decide), ?_⟩
      subst hu
      show WpX _ _ _ _ _
      refine EvP.go (d_str (x := "put")) fun v H2 e2 hv => ?_
      refine ⟨p, dx, _, rfl, e2 _ _ (e1 _ _ hp), ?_⟩
      show WaX _ _ _ _ _
      have e12 := e1.trans e2
      refine (show EvA _ _ _ _ [.int a, .int l] by walk_at "ea").run H2 (Ex.refl H2) _ fun vs H3 e3 hvs => ?_
      have e13 := e12.trans e3
      exact ⟨p, vs, st, (.put a l), rfl, rfl, hvs, hpg.ex e13, ok, hfit, note_end (e := (.put a l)) hlog (dp_ex e3 hv) (hA.ex e13)⟩
    | _ => (simp only [Edit.name] at hn; exact absurd hn (by decide))
theorem lcut_ok {g g0 C D : Addr} {kd : PKind} (hlg : kd.lg = true) (G : PgC K C) (B : Bi mg) (T : Sm P K g D "cut" "LoggedPage.cut" s_LoggedPage_cut P_LoggedPage_cut) (U : ∃ mro, SupF K mro D C g0 "cut") (F0 : Ff P w K mg base 8 g0 P_Page_cut (S_do K C kd "cut" (Pg.alone kd))) (Gn : Mf P w K mg base 1 C "noted" P_LoggedPage_noted (S_noted K C kd)) : Ff P w K mg base 9 g P_LoggedPage_cut (S_act K C kd "cut") := by
  refine T.ff 8 (fun vs H Q E h => ?_) (fun _ _ _ _ _ _ _ us hl => match us, hl with | [_, _], _ => rfl) fun c kV doc pm an cdv ct oc od osl S A outer s H vs Q E hr h => ?_
  · obtain ⟨_, args, _, e, rfl, hn, ha, _⟩ := h
    cases e <;> first | exact congrArg Nat.succ (dpa_length ha) | (simp only [Edit.name] at hn; exact absurd hn (by decide))
  · obtain ⟨p, args, st, e, rfl, hn, ha, hpg, ok, hlog, hfit, hA⟩ := h
    cases e with
    | cut a =>
      obtain ⟨mro, U⟩ := U
      obtain ⟨f, fd, hm, Fn, Bn⟩ := Gn.ex
      obtain ⟨x, rfl, hx⟩ := dpa1 ha
      obtain ⟨dx, v1, v2, v3, v4, v5, v6, hp, V⟩ := id hpg
      have hA := act_of hlg hA
      refine body_ret (pes_meth2 (C := C) (E := E) pp G.cls hm Fn (hr.mono (by decide)) Bn (L2N.passes_call (L2N.takes_of rfl rfl rfl rfl) (fun _ _ _ _ z => z)) pp (pes_super (C := C) (E := E) rfl S B.super U F0.raw hr (L2N.passes_call (L2N.takes_of rfl rfl rfl rfl) (fun _ _ _ _ z => z)) aa)) ?_
      show WpX _ _ _ _ _
      refine (v_var 0 rfl (.inl rfl) rfl rfl rfl).go fun u H1 e1 hu => ⟨p, dx, _, hu, e1 _ _ hp, fs_no (by decide), ?_⟩
      subst hu
      show WpX _ _ _ _ _
      refine EvP.go (d_str (x := "cut")) fun v H2 e2 hv => ?_
      refine ⟨p, dx, _, rfl, e2 _ _ (e1 _ _ hp), ?_⟩
      show WaX _ _ _ _ _
      have e12 := e1.trans e2
      refine (show EvA _ _ _ _ [.int a] by walk_at "ea").run H2 (Ex.refl H2) _ fun vs H3 e3 hvs => ?_
      have e13 := e12.trans e3
      exact ⟨p, vs, st, (.cut a), rfl, rfl, hvs, hpg.ex e13, ok, hfit, note_end (e := (.cut a)) hlog (dp_ex e3 hv) (hA.ex e13)⟩
    | _ => (simp only [Edit.name] at hn; exact absurd hn (by decide))
theorem lresize_ok {g g0 C D : Addr} {kd : PKind} (hlg : kd.lg = true) (G : PgC K C) (B : Bi mg) (T : Sm P K g D "resize" "LoggedPage.resize" s_LoggedPage_resize P_LoggedPage_resize) (U : ∃ mro, SupF K mro D C g0 "resize") (F0 : Ff P w K mg base 8 g0 P_Page_resize (S_do K C kd "resize" (Pg.alone kd))) (Gn : Mf P w K mg base 1 C "noted" P_LoggedPage_noted (S_noted K C kd)) : Ff P w K mg base 9 g P_LoggedPage_resize (S_act K C kd "resize") := by
  refine T.ff 8 (fun vs H Q E h => ?_) (fun _ _ _ _ _ _ _ us hl => match us, hl with | [_, _, _], _ => rfl) fun c kV doc pm an cdv ct oc od osl S A outer s H vs Q E hr h => ?_
  · obtain ⟨_, args, _, e, rfl, hn, ha, _⟩ := h
    cases e <;> first | exact congrArg Nat.succ (dpa_length ha) | (simp only [Edit.name] at hn; exact absurd hn (by decide))
  · obtain ⟨p, args, st, e, rfl, hn, ha, hpg, ok, hlog, hfit, hA⟩ := h
    cases e with
    | resize a l =>
      obtain ⟨mro, U⟩ := U
      obtain ⟨f, fd, hm, Fn, Bn⟩ := Gn.ex
      obtain ⟨x, y, rfl, hx, hy⟩ := dpa2 ha
      obtain ⟨dx, v1, v2, v3, v4, v5, v6, hp, V⟩ := id hpg
      have hA := act_of hlg hA
      refine body_ret (pes_meth2 (C := C) (E := E) pp G.cls hm Fn (hr.mono (by decide)) Bn (L2N.passes_call (L2N.takes_of rfl rfl rfl rfl) (fun _ _ _ _ z => z)) pp (pes_super (C := C) (E := E) rfl S B.super U F0.raw hr (L2N.passes_call (L2N.takes_of rfl rfl rfl rfl) (fun _ _ _ _ z => z)) aa)) ?_
      show WpX _ _ _ _ _
      refine (v_var 0 rfl (.inl rfl) rfl rfl rfl).go fun u H1 e1 hu => ⟨p, dx, _, hu, e1 _ _ hp, fs_no (by decide), ?_⟩
      subst hu
      show WpX _ _ _ _ _
      refine EvP.go (d_str (x := "resize")) fun v H2 e2 hv => ?_
      refine ⟨p, dx, _, rfl, e2 _ _ (e1 _ _ hp), ?_⟩
      show WaX _ _ _ _ _
      have e12 := e1.trans e2
      refine (show EvA _ _ _ _ [.int a, .int l] by walk_at "ea").run H2 (Ex.refl H2) _ fun vs H3 e3 hvs => ?_
      have e13 := e12.trans e3
      exact ⟨p, vs, st, (.resize a l), rfl, rfl, hvs, hpg.ex e13, ok, hfit, note_end (e := (.resize a l)) hlog (dp_ex e3 hv) (hA.ex e13)⟩
    | _ => (simp only [Edit.name] at hn; exact absurd hn (by decide))
theorem lturn_ok {g g0 C D : Addr} {kd : PKind} (hlg : kd.lg = true) (G : PgC K C) (B : Bi mg) (T : Sm P K g D "turn" "LoggedPage.turn" s_LoggedPage_turn P_LoggedPage_turn) (U : ∃ mro, SupF K mro D C g0 "turn") (F0 : Ff P w K mg base 8 g0 P_Page_turn (S_do K C kd "turn" (Pg.alone kd))) (Gn : Mf P w K mg base 1 C "noted" P_LoggedPage_noted (S_noted K C kd)) : Ff P w K mg base 9 g P_LoggedPage_turn (S_act K C kd "turn") := by
  refine T.ff 8 (fun vs H Q E h => ?_) (fun _ _ _ _ _ _ _ us hl => match us, hl with | [_], _ => rfl) fun c kV doc pm an cdv ct oc od osl S A outer s H vs Q E hr h => ?_
  · obtain ⟨_, args, _, e, rfl, hn, ha, _⟩ := h
    cases e <;> first | exact congrArg Nat.succ (dpa_length ha) | (simp only [Edit.name] at hn; exact absurd hn (by decide))
  · obtain ⟨p, args, st, e, rfl, hn, ha, hpg, ok, hlog, hfit, hA⟩ := h
    cases e with
    | turn  =>
      obtain ⟨mro, U⟩ := U
      obtain ⟨f, fd, hm, Fn, Bn⟩ := Gn.ex
      cases ha
      obtain ⟨dx, v1, v2, v3, v4, v5, v6, hp, V⟩ := id hpg
      have hA := act_of hlg hA
      refine body_ret (pes_meth2 (C := C) (E := E) pp G.cls hm Fn (hr.mono (by decide)) Bn (L2N.passes_call (L2N.takes_of rfl rfl rfl rfl) (fun _ _ _ _ z => z)) pp (pes_super0 (C := C) (E := E) rfl S B.super U F0.raw hr (L2N.passes_call (L2N.takes_of rfl rfl rfl rfl) (fun _ _ _ _ z => z)))) ?_
      show WpX _ _ _ _ _
      refine (v_var 0 rfl (.inl rfl) rfl rfl rfl).go fun u H1 e1 hu => ⟨p, dx, _, hu, e1 _ _ hp, fs_no (by decide), ?_⟩
      subst hu
      show WpX _ _ _ _ _
      refine EvP.go (d_str (x := "turn")) fun v H2 e2 hv => ?_
      refine ⟨p, dx, _, rfl, e2 _ _ (e1 _ _ hp), ?_⟩
      have e12 := e1.trans e2
      exact ⟨p, [], st, .turn, rfl, rfl, .nil, hpg.ex e12, ok, hfit, note_end (e := .turn) hlog hv (hA.ex e12)⟩
    | _ => (simp only [Edit.name] at hn; exact absurd hn (by decide))
theorem lundo_ok {g g0 C D : Addr} {kd : PKind} (hlg : kd.lg = true) (G : PgC K C) (B : Bi mg) (T : Sm P K g D "undo" "LoggedPage.undo" s_LoggedPage_undo P_LoggedPage_undo) (U : ∃ mro, SupF K mro D C g0 "undo") (F0 : Ff P w K mg base 8 g0 P_Page_undo (S_do K C kd "undo" (Pg.alone kd))) (Gn : Mf P w K mg base 1 C "noted" P_LoggedPage_noted (S_noted K C kd)) : Ff P w K mg base 9 g P_LoggedPage_undo (S_act K C kd "undo") := by
  refine T.ff 8 (fun vs H Q E h => ?_) (fun _ _ _ _ _ _ _ us hl => match us, hl with | [_], _ => rfl) fun c kV doc pm an cdv ct oc od osl S A outer s H vs Q E hr h => ?_
  · obtain ⟨_, args, _, e, rfl, hn, ha, _⟩ := h
    cases e <;> first | exact congrArg Nat.succ (dpa_length ha) | (simp only [Edit.name] at hn; exact absurd hn (by decide))
  · obtain ⟨p, args, st, e, rfl, hn, ha, hpg, ok, hlog, hfit, hA⟩ := h
    cases e with
    | undo  =>
      obtain ⟨mro, U⟩ := U
      obtain ⟨f, fd, hm, Fn, Bn⟩ := Gn.ex
      cases ha
      obtain ⟨dx, v1, v2, v3, v4, v5, v6, hp, V⟩ := id hpg
      have hA := act_of hlg hA
      refine body_ret (pes_meth2 (C := C) (E := E) pp G.cls hm Fn (hr.mono (by decide)) Bn (L2N.passes_call (L2N.takes_of rfl rfl rfl rfl) (fun _ _ _ _ z => z)) pp (pes_super0 (C := C) (E := E) rfl S B.super U F0.raw hr (L2N.passes_call (L2N.takes_of rfl rfl rfl rfl) (fun _ _ _ _ z => z)))) ?_
      show WpX _ _ _ _ _
      refine (v_var 0 rfl (.inl rfl) rfl rfl rfl).go fun u H1 e1 hu => ⟨p, dx, _, hu, e1 _ _ hp, fs_no (by decide), ?_⟩
      subst hu
      show WpX _ _ _ _ _
      refine EvP.go (d_str (x := "undo")) fun v H2 e2 hv => ?_
      refine ⟨p, dx, _, rfl, e2 _ _ (e1 _ _ hp), ?_⟩
      have e12 := e1.trans e2
      exact ⟨p, [], st, .undo, rfl, rfl, .nil, hpg.ex e12, ok, hfit, note_end (e := .undo) hlog hv (hA.ex e12)⟩
    | _ => (simp only [Edit.name] at hn; exact absurd hn (by decide))
end
end TX
end
section
namespace TX
open PySem PySem.Spec PyProof.Rows L2 Evl W1 D1 MM
section
variable {P : Program} {w : World} {K : PySem.W.Frag} {mg : Str → Option Value} {base : Heap}
/-- o.f = e, the rest from there -/
theorem bl_fset {X : Cx} {o value : Expr} {rest : List Stmt} {σ : L2.St} {H : Hp} {D : Ends} {pos pos' : Pos} {f : Str} {p C dx : Addr} {fs : List (Str × V)} {Φ : V → Hp → Prop} (hv : EvP X value σ H Φ) (ho : ∀ H1, EvP X o σ H1 fun u _ => u = .ref p) (hp : H p = some (.ins C dx fs)) (c : Cls X.K C) (n : NoAttr X.K C f) (l : fs.length < 900)
    (k : ∀ u H1 H2, Ex H H1 → Φ u H1 → FrI (· = p) H1 H2 → H2 p = some (.ins C dx (putF f u fs)) → BlX X rest σ H2 D) (hs : swapsWith value (some (.Attribute o f pos')) pos.line X.env = pure false := by rfl) : BlX X (.Assign [.Attribute o f pos'] value pos :: rest) σ H D :=
  bl_fld (p := p) (hv.go fun u H1 e1 hu => ⟨C, dx, fs, ho H1, e1 _ _ hp, c, n, l, fun H2 e2 => k u H1 _ e1 hu ((FrI.of e2).trans (FrI.upd (e2 _ _ (e1 _ _ hp)) trivial rfl)) upd_same⟩) hs
def _root_.MM.Pg.new (r : List Int) : Pg := ⟨r, [r], [], none, false, []⟩
theorem new_ok {kd : PKind} {r : List Int} (h : RowOk r) (hf : fitsK kd r) : (Pg.new r).ok kd where
  rows := fun x hx => by
    rw [List.mem_singleton.mp hx]
    exact ⟨h, hf⟩
  len := rfl
  last := rfl
  few := Nat.zero_le _
  fit := fun e he => nomatch he
  want := fun w hw => nomatch hw
  log := fun q hq => nomatch hq
def S_init (K : PySem.W.Frag) (C : Addr) (kd : PKind) : Sp := fun vs H Q _ => ∃ p x dx row, vs = [.ref p, x] ∧ H p = some (.ins C dx []) ∧ Dp K H x (rowD row) ∧ RowOk row ∧ fitsK kd row ∧ ∀ H' v1 v2 v3 v4 v5, FrI (· = p) H H' → H' p = some (.ins C dx (fsOf false v1 v2 v3 v4 v5 v3)) → PgV K H' (Pg.new row) v1 v2 v3 v4 v5 v3 → Q .non H'
theorem init_ok {g C : Addr} {kd : PKind} (G : PgC K C) (D : Fm K g "__init__" "Page.__init__" s_Page_init) (Ge : Gf P w K mg base 3 "row_error" P_row_error (Spf K R_row_error)) (Ga : Mf P w K mg base 2 C "accept" P_Page_accept (S_accept K C kd)) : Ff P w K mg base 4 g P_Page_init (S_init K C kd) := by
  refine D.ff 3 sc_Page_init (fun vs H Q E h => ?_) (fun _ _ _ _ _ _ us hl => match us, hl with | [_, _], _ => rfl) fun f cdv A outer s H vs Q E hr h => ?_
  · obtain ⟨_, _, _, _, rfl, _⟩ := h
    rfl
  · obtain ⟨p, x, dx, row, rfl, hp, hx, hrow, hfit, hQ⟩ := h
    refine bl_set 2 sc_Page_init.nd rfl (.inl rfl) ((d_call Ge hr (by rfl) (ds := [rowD row]) (by walk_at "ea") ⟨row, rfl, hrow, rfl⟩).go fun v H1 e1 hv => ?_)
    cases hv
    refine bl_when (k := !isNo .none) (b_notN (by walk_at "var")) (fun hk => by cases hk) fun _ H2 e2 => ?_
    have e12 := e1.trans e2
    have hx2 := dp_ex e12 hx
    refine bl_expr (w_methE (E := E) (p := p) (L2N.takes_of rfl rfl rfl rfl) G.cls Ga (hr.mono (by decide)) (v_var 0 rfl (.inl rfl) rfl rfl rfl) (e12 _ _ hp) rfl (ds := [rowD row]) (by walk_at "ea") fun vs H3 e3 hvs => ?_)
    obtain ⟨y, rfl, hy⟩ := dpa1 hvs
    refine ⟨p, y, dx, [], row, rfl, e3 _ _ (e12 _ _ hp), rfl, hy, hrow, fun _ H4 e4 => ?_, fun h => absurd hfit h⟩
    have e14 := e12.trans (e3.trans e4)
    have hx4 := dp_ex e14 hx
    have self : ∀ H1 pos, EvP (cX P w K mg base N_Page_init "Page.__init__" s_Page_init f cdv A outer s H E) (.Name "self" pos) [some (.ref p), some x, some .non] H1 (fun u _ => u = .ref p) := fun H1 pos => v_var 0 rfl (.inl rfl) rfl rfl rfl
    refine bl_fset (p := p) (x_var (d := rowD row) 1 rfl (.inl rfl) rfl hx4 rfl rfl) (fun H1 => self H1 _) (e14 _ _ hp) G.cls (G.na _ (by decide)) (by decide) fun u1 H5 H6 e5 h1 f6 hp6 => ?_
    have h1 := f6.dp h1
    have hx6 := f6.dp (dp_ex e5 hx4)
    have F6 : FrI (· = p) H H6 := (FrI.of (e14.trans e5)).trans f6
    refine bl_fset (p := p) (d_tup (ds := [rowD row]) (by walk_at "ea") (by simp)) (fun H1 => self H1 _) hp6 G.cls (G.na _ (by decide)) (show (1 : Nat) < 900 by decide) fun u2 H7 H8 e7 h2 f8 hp8 => ?_
    have F8 : FrI (· = p) H6 H8 := (FrI.of e7).trans f8
    have h1 := F8.dp h1
    have h2 := f8.dp h2
    refine bl_fset (p := p) (d_tup (ds := []) a_nil (by simp)) (fun H1 => self H1 _) hp8 G.cls (G.na _ (by decide)) (show (2 : Nat) < 900 by decide) fun u3 H9 H10 e9 h3 f10 hp10 => ?_
    have F10 : FrI (· = p) H8 H10 := (FrI.of e9).trans f10
    have h1 := F10.dp h1
    have h2 := F10.dp h2
    have h3 := f10.dp h3
    refine bl_fset (p := p) d_none (fun H1 => self H1 _) hp10 G.cls (G.na _ (by decide)) (show (3 : Nat) < 900 by decide) fun u4 H11 H12 e11 h4 f12 hp12 => ?_
    have F12 : FrI (· = p) H10 H12 := (FrI.of e11).trans f12
    have h1 := F12.dp h1
    have h2 := F12.dp h2
    have h3 := F12.dp h3
    have h4 := f12.dp h4
    refine bl_fset (p := p) (d_bl (c := false)) (fun H1 => self H1 _) hp12 G.cls (G.na _ (by decide)) (show (4 : Nat) < 900 by decide) fun u5 H13 H14 e13 h5 f14 hp14 => ?_
    have F14 : FrI (· = p) H12 H14 := (FrI.of e13).trans f14
    exact bl_nil (hQ H14 u1 u2 u3 u4 u5 (F6.trans (F8.trans (F10.trans (F12.trans F14)))) hp14 ⟨F14.dp h1, F14.dp h2, F14.dp h3, F14.dp h4, f14.dp h5, F14.dp h3⟩)
/-- a class's own __init__: a new page -/
def S_make (K : PySem.W.Frag) (C : Addr) (kd : PKind) : Sp := fun vs H Q _ => ∃ p x dx row, vs = [.ref p, x] ∧ H p = some (.ins C dx []) ∧ Dp K H x (rowD row) ∧ RowOk row ∧ fitsK kd row ∧ ∀ H', FrI (· = p) H H' → PgAt K H' p C kd (Pg.new row) → Q .non H'
theorem make_plain {g C : Addr} {kd : PKind} (hlg : kd.lg = false) {k : Nat} {ps : List Str} (F : Ff P w K mg base k g ps (S_init K C kd)) : Ff P w K mg base k g ps (S_make K C kd) := F.imp fun vs H Q E ⟨p, x, dx, row, hv, hp, hx, hr, hf, hQ⟩ => ⟨p, x, dx, row, hv, hp, hx, hr, hf, fun H' v1 v2 v3 v4 v5 f hp' V => hQ H' f ⟨dx, v1, v2, v3, v4, v5, v3, by rw [hlg]; exact hp', V⟩⟩
theorem linit_ok {g g0 C D : Addr} {kd : PKind} (hlg : kd.lg = true) (G : PgC K C) (B : Bi mg) (T : Sm P K g D "__init__" "LoggedPage.__init__" s_LoggedPage_init P_LoggedPage_init) (U : ∃ mro, SupF K mro D C g0 "__init__") (F0 : Ff P w K mg base 4 g0 P_Page_init (S_init K C kd)) : Ff P w K mg base 5 g P_LoggedPage_init (S_make K C kd) := by
  refine T.ff 4 (fun vs H Q E h => ?_) (fun _ _ _ _ _ _ _ us hl => match us, hl with | [_, _], _ => rfl) fun c kV doc pm an cdv ct oc od osl S A outer s H vs Q E hr h => ?_
  · obtain ⟨_, _, _, _, rfl, _⟩ := h
    rfl
  · obtain ⟨p, x, dx, row, rfl, hp, hx, hrow, hfit, hQ⟩ := h
    obtain ⟨mro, U⟩ := U
    refine body_expr (pes_super (C := C) (E := E) rfl S B.super U F0.raw hr (L2N.passes_call (L2N.takes_of rfl rfl rfl rfl) (fun _ _ _ _ z => z)) aa) bb ?_
    refine ⟨p, dx, _, rfl, hp, ?_⟩
    show WaX _ _ _ _ _
    refine (show EvA _ _ _ _ [rowD row] by walk_at "ea").run H (Ex.refl H) _ fun vs H3 e3 hvs => ?_
    obtain ⟨y, rfl, hy⟩ := dpa1 hvs
    refine ⟨p, y, dx, row, rfl, e3 _ _ hp, hy, hrow, hfit, fun H' v1 v2 v3 v4 v5 f hp' V => ?_⟩
    refine bl_fset (p := p) (d_tup (ds := []) a_nil (by simp)) (fun H1 => v_var 0 rfl (.inl rfl) rfl rfl rfl) hp' G.cls (G.na _ (by decide)) (by simp [fsOf]) fun u6 H7 H8 e7 h6 f8 hp8 => ?_
    have F8 : FrI (· = p) H' H8 := (FrI.of e7).trans f8
    have V8 := V.fr F8
    refine bl_nil (hQ H8 ((FrI.of e3).trans (f.trans F8)) ⟨dx, v1, v2, v3, v4, v5, u6, by rw [hlg]; exact hp8, V8.now, V8.states, V8.done, V8.wanted, V8.busy, f8.dp h6⟩)
end
end TX
end
section
namespace TX
open PySem PySem.Spec PyProof.Rows L2 Evl W1 D1 MM
/-! ### the steps' text -/
theorem ext_le2 {r : List Int} (hr : RowOk r) (s f : Nat) (hf : f < r.length) : ext r s f ≤ 2000 := by
  have h1 := sum_le ((r.drop s).take (f + 1 - s)) fun x hx => (hr.all x (List.mem_of_mem_drop (List.mem_of_mem_take hx))).2
  have h2 : ((r.drop s).take (f + 1 - s)).length ≤ r.length := by rw [List.length_take, List.length_drop]; omega
  have h3 := hr.few
  unfold ext
  omega
theorem nextWidth_le2 {r : List Int} (hr : RowOk r) {w x : Int} (h : nextWidth r (starts r w) = some x) : x ≤ 2000 := by
  unfold nextWidth at h
  split at h
  · cases h
  · rename_i hne
    cases h
    have hm := minI_mem hne
    obtain ⟨p, hp, e⟩ := List.mem_map.mp hm
    obtain ⟨_, h2, _⟩ := starts_pairs r w (by have := hr.pos; omega) p hp
    rw [← e]
    exact ext_le2 hr p.1 p.2 h2
theorem book_small {r : List Int} (hr : RowOk r) : ∀ (n : Nat) (w : Int), (3000 - w).toNat ≤ n → 1 ≤ w → w ≤ 2000 → ∀ p ∈ book r w, (1 ≤ p.1 ∧ p.1 ≤ 2000) ∧ p.2.length ≤ 24
  | n, w, hn, h1, h2, p, hp => by
    rw [book_eq hr] at hp
    have hl := starts_len r w hr.pos
    have hf := hr.few
    rcases List.mem_cons.mp hp with rfl | hp
    · exact ⟨⟨h1, h2⟩, by show (starts r w).length ≤ 24; omega⟩
    · cases e : nextWidth r (starts r w) with
      | none => rw [e] at hp; cases hp
      | some x =>
        rw [e] at hp
        have h3 := nextWidth_gt hr e
        have h4 := nextWidth_le2 hr e
        cases n with
        | zero => omega
        | succ n => exact book_small hr n x (by omega) (by omega) h4 p hp
theorem steps_mem : ∀ (l : List (Int × List Nat)) (acc : List (Int × Nat)) (q : Int × Nat), q ∈ l.foldl stepAdd acc → q ∈ acc ∨ ∃ p ∈ l, q = (p.1, p.2.length)
  | [], acc, q, h => .inl h
  | p :: l, acc, q, h => by
    rcases steps_mem l (stepAdd acc p) q h with h | ⟨p', h1, h2⟩
    · unfold stepAdd at h
      split at h
      · rcases List.mem_append.mp h with h | h
        · exact .inl h
        · exact .inr ⟨p, List.mem_cons_self .., List.mem_singleton.mp h⟩
      · exact .inl h
    · exact .inr ⟨p', List.mem_cons_of_mem _ h1, h2⟩
theorem steps_len : ∀ (l : List (Int × List Nat)) (acc : List (Int × Nat)), (l.foldl stepAdd acc).length ≤ acc.length + l.length
  | [], acc => Nat.le_refl _
  | p :: l, acc => by
    have h := steps_len l (stepAdd acc p)
    have h2 : (stepAdd acc p).length ≤ acc.length + 1 := by
      unfold stepAdd
      split <;> simp
    rw [List.length_cons]
    show (l.foldl stepAdd (stepAdd acc p)).length ≤ _
    omega
theorem steps_small {r : List Int} (hr : RowOk r) : (∀ q ∈ stepsOf r, small q.1 ∧ small (q.2 : Nat)) ∧ (stepsOf r).length ≤ 3001 := by
  have hm := maxI_row hr
  refine ⟨fun q hq => ?_, ?_⟩
  · rcases steps_mem _ _ _ hq with h | ⟨p, hp, rfl⟩
    · cases h
    · have h := book_small hr _ _ (Nat.le_refl _) hm.1 (by omega) p hp
      exact ⟨⟨by omega, by omega⟩, ⟨by omega, by show ((p.2.length : Nat) : Int) ≤ 2100; omega⟩⟩
  · have h := steps_len (bookOf r) []
    have h2 := book_len (r := r) (MM.maxI r)
    unfold stepsOf
    unfold bookOf at h ⊢
    simp only [List.length_nil] at h
    omega
def stepText (q : Int × Nat) : Str := [sI q.1, ":", sI (q.2 : Nat)].foldl (· ++ ·) Str.empty
def stepsText (r : List Int) : Str := Txt.join " " ((stepsOf r).map stepText)
def gStep (d f : PyData) : PyData := match d, f with
  | .int a, .int b => .str ([sI a, ":", sI b].foldl (· ++ ·) Str.empty)
  | _, _ => .none
theorem stepText_len {q : Int × Nat} (h : small q.1 ∧ small (q.2 : Nat)) : (stepText q).length ≤ 9 := by
  have h1 := sI_len h.1.1 h.1.2
  have h2 := sI_len h.2.1 h.2.2
  have e1 : (":" : Str).length = 1 := rfl
  have e0 : (Str.empty).length = 0 := rfl
  show (((Str.empty ++ sI q.1) ++ ":") ++ sI (q.2 : Nat)).length ≤ 9
  have a1 : (((Str.empty ++ sI q.1) ++ ":") ++ sI (q.2 : Nat)).length = ((Str.empty ++ sI q.1) ++ ":").length + (sI (q.2 : Nat)).length := Str.length_append ..
  have a2 : ((Str.empty ++ sI q.1) ++ (":" : Str)).length = (Str.empty ++ sI q.1).length + (":" : Str).length := Str.length_append ..
  have a3 : (Str.empty ++ sI q.1).length = (Str.empty).length + (sI q.1).length := Str.length_append ..
  omega
theorem steps_sum {r : List Int} (hr : RowOk r) : (((stepsOf r).map stepText).map (·.length)).sum + ((stepsOf r).map stepText).length * 1 ≤ 100000 := by
  obtain ⟨h1, h2⟩ := steps_small hr
  have := sumlen_le (l := (stepsOf r).map stepText) (k := 9) fun x hx => by
    obtain ⟨q, hq, rfl⟩ := List.mem_map.mp hx
    exact stepText_len (h1 q hq)
  rw [List.length_map] at this ⊢
  omega
/-! ### a console in the heap -/
structure CoC (K : PySem.W.Frag) (Cc : Addr) : Prop where
  cls : Cls K Cc
  na : ∀ f ∈ (["page", "pairs"] : List Str), NoAttr K Cc f
def CoAt (K : PySem.W.Frag) (H : Hp) (c Cc p l : Addr) : Prop := ∃ dx ds, H c = some (.ins Cc dx [("page", .ref p), ("pairs", .ref l)]) ∧ (∃ xs, H l = some (.lst xs) ∧ DpAll K H xs ds) ∧ ds.length ≤ 20 ∧ noLs ds = true
theorem CoAt.fr {M : Addr → Prop} {K : PySem.W.Frag} {H H' : Hp} {c Cc p l : Addr} (h : CoAt K H c Cc p l) (f : FrI M H H') (hn : ¬ M c) : CoAt K H' c Cc p l := by
  obtain ⟨dx, ds, h1, ⟨xs, h2, h3⟩, h4, h5⟩ := h
  exact ⟨dx, ds, f.ins h1 hn, ⟨xs, f.lst h2, f.dpa h3⟩, h4, h5⟩
theorem CoAt.ex {K : PySem.W.Frag} {H H' : Hp} {c Cc p l : Addr} (h : CoAt K H c Cc p l) (e : Ex H H') : CoAt K H' c Cc p l := h.fr (FrI.of (M := fun _ => False) e) id
section
variable {P : Program} {w : World} {K : PySem.W.Frag} {mg : Str → Option Value} {base : Heap}
def S_coinit (K : PySem.W.Frag) (Cc : Addr) : Sp := fun vs H Q _ => ∃ c p dx, vs = [.ref c, .ref p] ∧ H c = some (.ins Cc dx []) ∧ ∀ H' l, FrI (· = c) H H' → H l = none → CoAt K H' c Cc p l → Q .non H'
theorem coinit_ok {g Cc : Addr} (G : CoC K Cc) (D : Fm K g "__init__" "Console.__init__" s_Console_init) : Ff P w K mg base 1 g P_Console_init (S_coinit K Cc) := by
  refine D.ff 0 sc_Console_init (fun vs H Q E h => ?_) (fun _ _ _ _ _ _ us hl => match us, hl with | [_, _], _ => rfl) fun f cdv A outer s H vs Q E hr h => ?_
  · obtain ⟨_, _, _, rfl, _⟩ := h
    rfl
  · obtain ⟨c, p, dx, rfl, hc, hQ⟩ := h
    refine bl_fset (p := c) (v_var 1 rfl (.inl rfl) rfl rfl rfl) (fun H1 => v_var 0 rfl (.inl rfl) rfl rfl rfl) hc G.cls (G.na _ (by decide)) (by decide) fun u1 H5 H6 e5 h1 f6 hp6 => ?_
    subst h1
    refine bl_fset (p := c) (n_lst (ds := []) a_nil (by decide)) (fun H1 => v_var 0 rfl (.inl rfl) rfl rfl rfl) hp6 G.cls (G.na _ (by decide)) (show (1 : Nat) < 900 by decide) fun u2 H7 H8 e7 ⟨l, xs, ev, hl0, hl1, hxs⟩ f8 hp8 => ?_
    subst ev
    have F6 : FrI (· = c) H H6 := (FrI.of e5).trans f6
    have hl8 := f8.lst hl1
    refine bl_nil (hQ H8 l (F6.trans ((FrI.of e7).trans f8)) ?_ ⟨dx, [], hp8, ⟨xs, hl8, f8.dpa hxs⟩, by decide, rfl⟩)
    cases hh : H l with
    | none => rfl
    | some o =>
      rcases F6 l o hh with z | ⟨z, _⟩
      · rw [z] at hl0; cases hl0
      · subst z
        rw [hp6] at hl0
        cases hl0
def S_count (K : PySem.W.Frag) (Cc C : Addr) (kd : PKind) : Sp := fun vs H Q E => ∃ c p l st wd, vs = [.ref c, .int wd] ∧ CoAt K H c Cc p l ∧ PgAt K H p C kd st ∧ st.ok kd ∧ (1 ≤ wd ∧ wd ≤ 2000 → (∀ x ∈ st.now, x ≤ wd) → ∀ H', Ex H H' → Q (.str (sI ((starts st.now wd).length : Nat))) H') ∧ (1 ≤ wd ∧ wd ≤ 2000 → ¬ (∀ x ∈ st.now, x ≤ wd) → RsB K H E .tooNarrow) ∧ (¬ (1 ≤ wd ∧ wd ≤ 2000) → RsB K H E .noWidth)
theorem count_ok {g Cc C : Addr} {kd : PKind} (Gc : CoC K Cc) (G : PgC K C) (B : Bi mg) (D : Fm K g "count_text" "Console.count_text" s_Console_count_text) (G1 : Gf P w K mg base 3 "check_width" P_check_width (S_check_width K)) (G2 : Gf P w K mg base 5 "count_lines" P_count_lines (S_count_lines K)) (G3 : Pf P w K mg base 1 C "row" (S_get K C kd r_row)) : Ff P w K mg base 6 g P_Console_count_text (S_count K Cc C kd) := by
  refine D.ff 5 sc_Console_count_text (fun vs H Q E h => ?_) (fun _ _ _ _ _ _ us hl => match us, hl with | [_, _], _ => rfl) fun f cdv A outer s H vs Q E hr h => ?_
  · obtain ⟨_, _, _, _, _, rfl, _⟩ := h
    rfl
  · obtain ⟨c, p, l, st, wd, rfl, hco, hpg, ok, h1, h2, h3⟩ := h
    refine bl_expr (w_callE (E := E) (L2N.takes_of rfl rfl rfl rfl) G1 (hr.mono (by decide)) (by rfl) (ds := [.int wd]) (by walk_at "ea") fun vs H2 e2 hvs => ⟨wd, hvs, fun hw H3 e3 => ?_, fun hw => RsB.ex (h3 hw) e2 (.int wd)⟩)
    have e23 := e2.trans e3
    obtain ⟨dx, ds, hc, _⟩ := hco.ex e23
    have hp3 := hpg.ex e23
    have hrow := ok.now.1
    have hsl := starts_len st.now wd hrow.pos
    have hf := hrow.few
    refine bl_ret ?_
    refine .of (pe_callTy (T := "str") (x := "str") call_str_int (by rfl) B.str boot_str (pa_cons pp pa_nil rfl) (by decide) (by decide) (by rfl) (by rfl)) ?_
    show WpX _ _ _ _ _
    refine w_callE (E := E) (L2N.takes_of rfl rfl rfl rfl) G2 hr (by rfl) (ds := [rowD st.now, .int wd]) (a_cons (d_prop G.cls G3 (hr.mono (by decide)) (v_fld (v_var 0 rfl (.inl rfl) rfl rfl rfl) hc Gc.cls (Gc.na _ (by decide)) rfl) hp3 ok) (by walk_at "ea")) fun vs H4 e4 hvs => ⟨st.now, wd, hvs, hrow.pos, by omega, fun ha H5 e5 => ?_, fun hn => RsB.ex (h2 hw hn) (e23.trans e4)⟩
    exact ⟨_, rfl, i64 (by omega), h1 hw ha H5 (e23.trans (e4.trans e5))⟩
end
end TX
end
section
namespace TX
open PySem PySem.Spec PyProof.Rows L2 Evl W1 D1 MM
/-! ### queries -/
inductive Qy where
  | look (w : Int)
  | lines
  | at_ (i : Int)
  | size
  | count (w : Int)
  | steps
  | row
def Qy.name : Qy → Str
  | .look _ => "look" | .lines => "lines" | .at_ _ => "at" | .size => "size" | .count _ => "count" | .steps => "steps" | .row => "row"
def Qy.args : Qy → List Int
  | .look w => [w] | .at_ i => [i] | .count w => [w] | _ => []
def qyR (st : Pg) : Qy → Except Bad (Str × Pg)
  | .look w => if 1 ≤ w ∧ w ≤ 2000 then .ok (linesText (linesPg { st with wanted := some w }), { st with wanted := some w }) else .error .noWidth
  | .lines => .ok (linesText (linesPg st), st)
  | .at_ i => if 0 ≤ i ∧ i < st.now.length then .ok (sI (st.now.getD i.toNat 0), st) else .error .noPlace
  | .size => .ok (sI (st.now.length : Nat), st)
  | .count w => if 1 ≤ w ∧ w ≤ 2000 then if ∀ x ∈ st.now, x ≤ w then .ok (sI ((starts st.now w).length : Nat), st) else .error .tooNarrow else .error .noWidth
  | .steps => .ok (stepsText st.now, st)
  | .row => .ok (rowText st.now, st)
theorem lines_okPg {kd : PKind} {st : Pg} (ok : st.ok kd) : LinesOk (linesPg st) := by
  unfold linesPg
  have hrow := ok.now.1
  split
  · trivial
  · rename_i w _
    split
    · trivial
    · have hl := starts_len st.now w hrow.pos
      have hf := hrow.few
      refine ⟨?_, fun l hl => ?_⟩
      · show (((starts st.now w).zip _).map _).length ≤ 24
        rw [List.length_map, List.length_zip]
        omega
      · obtain ⟨p, hp, rfl⟩ := List.mem_map.mp hl
        refine ⟨by rw [List.length_take, List.length_drop]; omega, fun x hx => ?_⟩
        have := hrow.all x (List.mem_of_mem_drop (List.mem_of_mem_take hx))
        exact ⟨by omega, by omega⟩
/-- a text and the page after, or an error -/
def AnsT (K : PySem.W.Frag) (H : Hp) (E : XK) (p C : Addr) (kd : PKind) (k : Str → Pg → Hp → Prop) : Except Bad (Str × Pg) → Prop
  | .ok (t, st') => ∀ H', FrI (· = p) H H' → PgAt K H' p C kd st' → k t st' H'
  | .error b => RsB K H E b
theorem AnsT.ex {K : PySem.W.Frag} {H H1 : Hp} {E : XK} {p C : Addr} {kd : PKind} {k : Str → Pg → Hp → Prop} {o : Except Bad (Str × Pg)} (h : AnsT K H E p C kd k o) (e : Ex H H1) : AnsT K H1 E p C kd k o := by
  match o, h with
  | .ok (t, st'), h => exact fun H' f hp => h H' ((FrI.of e).trans f) hp
  | .error b, h => exact RsB.ex h e
def S_query (K : PySem.W.Frag) (Cc C : Addr) (kd : PKind) : Sp := fun vs H Q E => ∃ c p l st x y q, vs = [.ref c, x, y] ∧ CoAt K H c Cc p l ∧ PgAt K H p C kd st ∧ st.ok kd ∧ Dp K H x (.str (Qy.name q)) ∧ Dp K H y (.list ((Qy.args q).map .int)) ∧ AnsT K H E p C kd (fun t _ H' => Q (.str t) H') (qyR st q)
/-- page[i] -/
structure Itf (P : Program) (w : World) (K : PySem.W.Frag) (mg : Str → Option Value) (base : Heap) (k : Nat) (C : Addr) (m : Str) (ps : List Str) (sp : Sp) : Prop where
  ex : ∃ g, PySem.W.findIn K (.ref C) m = some (some (.ref g)) ∧ PySem.W.fnIn K g = true ∧ PySem.W.isFn K (.ref g) = true ∧ Ff P w K mg base k g ps sp
section
variable {P : Program} {w : World} {K : PySem.W.Frag} {mg : Str → Option Value} {base : Heap}
theorem query_ok {g Cc C : Addr} {kd : PKind} (Gc : CoC K Cc) (G : PgC K C) (B : Bi mg) (D : Fm K g "answer_query" "Console.answer_query" s_Console_answer_query)
    (Glook : Mf P w K mg base 7 C "look" P_Page_look (S_look K C kd)) (Glines : Pf P w K mg base 4 C "lines" (S_get K C kd r_lines)) (Gsize : Pf P w K mg base 1 C "size" (S_get K C kd r_size)) (Grow : Pf P w K mg base 1 C "row" (S_get K C kd r_row))
    (Gitem : Itf P w K mg base 4 C "__getitem__" P_Page_getitem (S_item K C kd)) (Gcount : Mf P w K mg base 6 Cc "count_text" P_Console_count_text (S_count K Cc C kd))
    (Glt : Gf P w K mg base 1 "lines_text" P_lines_text (Spf K R_lines_text)) (Grt : Gf P w K mg base 1 "row_text" P_row_text (Spf K R_row_text)) (Gst : Gf P w K mg base 5 "steps_of" P_steps_of (Spf K R_steps_of)) : Ff P w K mg base 8 g P_Console_answer_query (S_query K Cc C kd) := by
  refine D.ff 7 sc_Console_answer_query (fun vs H Q E h => ?_) (fun _ _ _ _ _ _ us hl => match us, hl with | [_, _, _], _ => rfl) fun f cdv A outer s H vs Q E hr h => ?_
  · obtain ⟨_, _, _, _, _, _, _, rfl, _⟩ := h
    rfl
  · obtain ⟨c, p, l, st, x, y, q, rfl, hco, hpg, ok, hx, hy, hA⟩ := h
    cases hx
    refine bl_when (k := Qy.name q == "look") (b_eqS (by walk_at "var") d_str) (fun hk H1 e1 => ?_) fun hk1 H1 e1 => ?_
    · cases q with
      | look wd =>
        obtain ⟨dx, ds, hc, _⟩ := hco.ex e1
        have hp1 := hpg.ex e1
        obtain ⟨dxp, v1, v2, v3, v4, v5, v6, hp, V⟩ := id hp1
        have hy1 : Dp K H1 y (.list [.int wd]) := dp_ex e1 hy
        refine bl_ret (w_call Glt (hr.mono (by decide)) (by rfl) (E := E0') passF (.of (pa_cons pp pa_nil rfl) ?_))
        show WpX _ _ _ _ _
        refine w_methE (E := E) (p := p) (L2N.takes_of rfl rfl rfl rfl) G.cls Glook hr (v_fld (v_var 0 rfl (.inl rfl) rfl rfl rfl) hc Gc.cls (Gc.na _ (by decide)) rfl) hp (fs_no (by decide)) (ds := [.int wd]) (a_cons (d_ixL (d := .int wd) (by walk_at "var") d_int rfl) a_nil) fun vs H2 e2 hvs => ?_
        obtain ⟨z, rfl, hz⟩ := dpa1 hvs
        have e12 := e1.trans e2
        refine ⟨p, st, z, some wd, rfl, hpg.ex e12, ok, hz, fun hw v H3 f3 hp3 hv => ?_, fun hw => ?_⟩
        · have hw' := hw wd rfl
          have hA : AnsT K H E p C kd _ (if 1 ≤ wd ∧ wd ≤ 2000 then .ok (linesText (linesPg { st with wanted := some wd }), { st with wanted := some wd }) else .error .noWidth) := hA
          rw [if_pos hw'] at hA
          exact ⟨[_], _, ⟨_, rfl, lines_okPg (want_ok G ok hw), rfl⟩, .cons hv .nil, fun v' H' e' hv' => by cases hv'; exact hA H' ((FrI.of e12).trans (f3.trans (FrI.of e'))) (hp3.ex e')⟩
        · have hA : AnsT K H E p C kd _ (if 1 ≤ wd ∧ wd ≤ 2000 then .ok (linesText (linesPg { st with wanted := some wd }), { st with wanted := some wd }) else .error .noWidth) := hA
          rw [if_neg (fun z => hw fun w' h' => by cases h'; exact z)] at hA
          exact RsB.ex hA e12
      | _ => exact nomatch (show false = true from hk)
    have hA := hA.ex e1
    have hco := hco.ex e1
    have hpg := hpg.ex e1
    have hy := dp_ex e1 hy
    refine bl_when (k := Qy.name q == "lines") (b_eqS (by walk_at "var") d_str) (fun hk H2 e2 => ?_) fun hk2 H2 e2 => ?_
    · cases q with
      | lines =>
        obtain ⟨dx, ds, hc, _⟩ := hco.ex e2
        have hA := hA.ex e2
        exact bl_ret ((d_call Glt (hr.mono (by decide)) (by rfl) (ds := [r_lines st]) (a_cons (d_prop G.cls Glines (hr.mono (by decide)) (v_fld (v_var 0 rfl (.inl rfl) rfl rfl rfl) hc Gc.cls (Gc.na _ (by decide)) rfl) (hpg.ex e2) ok) a_nil) ⟨_, rfl, lines_okPg ok, rfl⟩).go fun v H3 e3 hv => by cases hv; exact hA H3 (FrI.of e3) (hpg.ex (e2.trans e3)))
      | _ => exact nomatch (show false = true from hk)
    have hA := hA.ex e2
    have hco := hco.ex e2
    have hpg := hpg.ex e2
    have hy := dp_ex e2 hy
    refine bl_when (k := Qy.name q == "at") (b_eqS (by walk_at "var") d_str) (fun hk H3 e3 => ?_) fun hk3 H3 e3 => ?_
    · cases q with
      | at_ i =>
        obtain ⟨dx, ds, hc, _⟩ := hco.ex e3
        have hp1 := hpg.ex e3
        obtain ⟨dxp, v1, v2, v3, v4, v5, v6, hp, V⟩ := id hp1
        obtain ⟨gi, h1, h2, h3, Fi⟩ := Gitem.ex
        have hy1 : Dp K H3 y (.list [.int i]) := dp_ex e3 hy
        refine bl_ret (.of (pe_callTy (T := "str") (x := "str") call_str_int (by rfl) B.str boot_str (pa_cons pp pa_nil rfl) (by decide) (by decide) (by rfl) (by rfl)) ?_)
        show WpX _ _ _ _ _
        refine .of (pe_ixO (C := C) (E := E) pp pp h1 h2 h3 Fi.raw (hr.mono (by decide)) (L2N.passes_call (L2N.takes_of rfl rfl rfl rfl) (fun _ _ _ _ z => z))) ?_
        show WpX _ _ _ _ _
        refine (v_fld (v_var 0 rfl (.inl rfl) rfl rfl rfl) hc Gc.cls (Gc.na _ (by decide)) rfl).go fun u H4 e4 hu => ?_
        show WpX _ _ _ _ _
        refine (EvP.mono e4 (d_ixL (d := .int i) (by walk_at "var") d_int rfl)).go fun z H5 e5 hz => ?_
        cases hz
        have e35 := e3.trans (e4.trans e5)
        have hA : AnsT K _ E p C kd _ (if 0 ≤ i ∧ i < st.now.length then .ok (sI (st.now.getD i.toNat 0), st) else .error .noPlace) := hA.ex e35
        refine ⟨p, dxp, _, hu, e5 _ _ (e4 _ _ hp), p, st, i, rfl, hpg.ex e35, ok, fun hi H6 e6 => ?_, fun hi => by rw [if_neg hi] at hA; exact hA⟩
        rw [if_pos hi] at hA
        have hlt : i.toNat < st.now.length := by omega
        have hv := ok.now.1.all (st.now.getD i.toNat 0) (by rw [List.getD_eq_getElem?_getD, List.getElem?_eq_getElem hlt]; exact List.getElem_mem hlt)
        exact ⟨_, rfl, i64 (by omega), hA H6 (FrI.of e6) (hpg.ex (e35.trans e6))⟩
      | _ => exact nomatch (show false = true from hk)
    have hA := hA.ex e3
    have hco := hco.ex e3
    have hpg := hpg.ex e3
    have hy := dp_ex e3 hy
    refine bl_when (k := Qy.name q == "size") (b_eqS (by walk_at "var") d_str) (fun hk H4 e4 => ?_) fun hk4 H4 e4 => ?_
    · cases q with
      | size =>
        obtain ⟨dx, ds, hc, _⟩ := hco.ex e4
        have hA := hA.ex e4
        have hf := ok.now.1.few
        exact bl_ret ((d_strI (i := ((st.now.length : Nat) : Int)) (by rfl) B.str (d_prop G.cls Gsize (hr.mono (by decide)) (v_fld (v_var 0 rfl (.inl rfl) rfl rfl rfl) hc Gc.cls (Gc.na _ (by decide)) rfl) (hpg.ex e4) ok) (by omega)).go fun v H5 e5 hv => by cases hv; exact hA H5 (FrI.of e5) (hpg.ex (e4.trans e5)))
      | _ => exact nomatch (show false = true from hk)
    have hA := hA.ex e4
    have hco := hco.ex e4
    have hpg := hpg.ex e4
    have hy := dp_ex e4 hy
    refine bl_when (k := Qy.name q == "count") (b_eqS (by walk_at "var") d_str) (fun hk H5 e5 => ?_) fun hk5 H5 e5 => ?_
    · cases q with
      | count wd =>
        have hco5 := hco.ex e5
        obtain ⟨dx, ds, hc, _⟩ := id hco5
        have hy1 : Dp K H5 y (.list [.int wd]) := dp_ex e5 hy
        refine bl_ret (w_methE (E := E) (p := c) (L2N.takes_of rfl rfl rfl rfl) Gc.cls Gcount (hr.mono (by decide)) (v_var 0 rfl (.inl rfl) rfl rfl rfl) hc rfl (ds := [.int wd]) (a_cons (d_ixL (d := .int wd) (by walk_at "var") d_int rfl) a_nil) fun vs H6 e6 hvs => ?_)
        obtain ⟨z, rfl, hz⟩ := dpa1 hvs
        cases hz
        have e56 := e5.trans e6
        have hA : AnsT K _ E p C kd _ (if 1 ≤ wd ∧ wd ≤ 2000 then if ∀ x ∈ st.now, x ≤ wd then .ok (sI ((starts st.now wd).length : Nat), st) else .error .tooNarrow else .error .noWidth) := hA.ex e56
        refine ⟨c, p, l, st, wd, rfl, hco.ex e56, hpg.ex e56, ok, fun hw ha H7 e7 => ?_, fun hw hn => ?_, fun hw => ?_⟩
        · rw [if_pos hw, if_pos ha] at hA
          exact hA H7 (FrI.of e7) (hpg.ex (e56.trans e7))
        · rw [if_pos hw, if_neg hn] at hA
          exact hA
        · rw [if_neg hw] at hA
          exact hA
      | _ => exact nomatch (show false = true from hk)
    have hA := hA.ex e5
    have hco := hco.ex e5
    have hpg := hpg.ex e5
    have hy := dp_ex e5 hy
    refine bl_when (k := Qy.name q == "steps") (b_eqS (by walk_at "var") d_str) (fun hk H6 e6 => ?_) fun hk6 H6 e6 => ?_
    · cases q with
      | steps =>
        obtain ⟨dx, ds, hc, _⟩ := hco.ex e6
        have hA := hA.ex e6
        have hrow := ok.now.1
        obtain ⟨hsm, hsl⟩ := steps_small hrow
        have hsum := steps_sum hrow
        refine bl_ret ((d_join (sep := " ") (ys := (stepsOf st.now).map stepText) d_str ?_ ?_).go fun v H7 e7 hv => by cases hv; exact hA H7 (FrI.of e7) (hpg.ex (e6.trans e7)))
        · have hz : ((stepsOf st.now).map stepText).map PyData.str = (((stepsOf st.now).map fun q : Int × Nat => (PyData.int q.1, PyData.int (q.2 : Int))).map fun p => gStep p.1 p.2) := by
            rw [List.map_map, List.map_map]
            rfl
          rw [hz]
          refine EvN.toD (n_lcT2 (own := [("width", 3), ("count", 4)]) (i := 3) (j := 4) gStep (qs := (stepsOf st.now).map fun q : Int × Nat => (PyData.int q.1, PyData.int (q.2 : Int))) rfl sc_Console_answer_query.nd (EvD.is (d := .tuple ((stepsOf st.now).map stD)) (d_call Gst (hr.mono (by decide)) (by rfl) (ds := [rowD st.now]) (a_cons (d_prop G.cls Grow (hr.mono (by decide)) (v_fld (v_var 0 rfl (.inl rfl) rfl rfl rfl) hc Gc.cls (Gc.na _ (by decide)) rfl) (hpg.ex e6) ok) a_nil) ⟨st.now, rfl, hrow, rfl⟩) (by rw [List.map_map]; rfl)) (blkOk_by (N := N_Console_answer_query) (sc := defScope s_Console_answer_query) (by decide +kernel)) rfl rfl rfl rfl (fun _ _ => rfl) (by rw [List.length_map]; omega) (fun d hd => ?_) ?_)
          · obtain ⟨i, _, rfl⟩ := List.mem_map.mp hd
            rfl
          · intro s0 H0 C0 cl0 fp0 d f u v H1 e1 hm hu hv
            obtain ⟨q, hq, e⟩ := List.mem_map.mp hm
            cases e
            have hs := hsm q hq
            have l1 := sI_len hs.1.1 hs.1.2
            have l2 := sI_len hs.2.1 hs.2.2
            refine d_joined (.cons (d_fmtI (by walk_at "var") (i2000 hs.1.1 hs.1.2)) (.cons d_str (.cons (d_fmtI (by walk_at "var") (i2000 hs.2.1 hs.2.2)) .nil))) ?_
            show (sI _).length + (1 + ((sI _).length + 0)) ≤ _
            omega
        · show _ + _ * 1 ≤ _
          omega
      | _ => exact nomatch (show false = true from hk)
    have hA := hA.ex e6
    have hco := hco.ex e6
    have hpg := hpg.ex e6
    cases q with
    | row =>
      obtain ⟨dx, ds, hc, _⟩ := hco
      exact bl_ret ((d_call Grt (hr.mono (by decide)) (by rfl) (ds := [rowD st.now]) (a_cons (d_prop G.cls Grow (hr.mono (by decide)) (v_fld (v_var 0 rfl (.inl rfl) rfl rfl rfl) hc Gc.cls (Gc.na _ (by decide)) rfl) hpg ok) a_nil) ⟨st.now, rfl, ok.now.1, rfl⟩).go fun v H7 e7 hv => by cases hv; exact hA H7 (FrI.of e7) (hpg.ex e7))
    | look _ => exact nomatch (show true = false from hk1)
    | lines => exact nomatch (show true = false from hk2)
    | at_ _ => exact nomatch (show true = false from hk3)
    | size => exact nomatch (show true = false from hk4)
    | count _ => exact nomatch (show true = false from hk5)
    | steps => exact nomatch (show true = false from hk6)
end
end TX
end
section
namespace TX
open PySem PySem.Spec PyProof.Rows L2 Evl W1 D1 MM
theorem act_ok {kd : PKind} {st st' : Pg} {e : Edit} (h : st.ok kd) (hc : st.busy = false → Edit.can e) (q : st.act kd e = .ok st') : st'.ok kd ∧ st'.busy = st.busy ∧ st'.wanted = st.wanted ∧ st'.log.length ≤ st.log.length + 1 := by
  unfold Pg.act at q
  cases ho : st.alone kd e with
  | error b => rw [ho] at q; cases q
  | ok s =>
    rw [ho] at q
    cases q
    have key : s.ok kd ∧ s.busy = st.busy ∧ s.wanted = st.wanted ∧ s.log = st.log := by
      by_cases hb : st.busy = true
      · unfold Pg.alone at ho
        rw [if_pos hb] at ho
        cases ho
      · have hc := hc (by simpa using hb)
        unfold Pg.alone at ho
        rw [if_neg hb] at ho
        cases e with
        | undo => exact Pg.undo_ok h ho
        | put a l => exact Pg.perform_ok (e := .put a l) h hc ho
        | cut a => exact Pg.perform_ok (e := .cut a) h hc ho
        | resize a l => exact Pg.perform_ok (e := .resize a l) h hc ho
        | turn => exact Pg.perform_ok (e := .turn) h trivial ho
    obtain ⟨k1, k2, k3, k4⟩ := key
    unfold Pg.note
    split
    · refine ⟨⟨k1.rows, k1.len, k1.last, k1.few, k1.fit, k1.want, fun z hz => ?_⟩, k2, k3, ?_⟩
      · rcases List.mem_append.mp hz with hz | hz
        · exact k1.log z hz
        · rw [List.mem_singleton.mp hz]
          refine ⟨by show e.nm.length ≤ 40; cases e <;> simp only [Edit.nm] <;> decide, by show (0 : Int) ≤ (s.done.length : Nat); omega, ?_⟩
          have := k1.few
          show ((s.done.length : Nat) : Int) ≤ 60
          omega
      · show (s.log ++ [_]).length ≤ _
        rw [List.length_append, k4]
        simp
    · exact ⟨k1, k2, k3, by rw [k4]; omega⟩
def okText (i : Int) : Str := (["ok ", sI i] : List Str).foldl (· ++ ·) Str.empty
section
variable {P : Program} {w : World} {K : PySem.W.Frag} {mg : Str → Option Value} {base : Heap}
/-- f'ok {e}' -/
theorem w_okJ {X : Cx} {e : Expr} {σ : L2.St} {H : Hp} {pos p1 p2 : Pos} {j : Nat} {Q : VK} (h : WpX X e σ H fun v H1 => ∃ i, v = .int i ∧ small i ∧ Q (.str (okText i)) H1) : WpX X (.JoinedStr [.Constant (.str "ok ") j p1, .FormattedValue e (-1) none p2] pos) σ H Q := by
  refine .of (pe_joined (pj_all [.Constant (.str "ok ") j p1, .FormattedValue e (-1) none p2])) ?_
  show WpX _ _ _ _ _
  refine .of pe_str ?_
  refine ⟨"ok ", rfl, by rw [sizeLine_eq]; decide, ?_⟩
  have e0 : ∀ y : Str, ((Str.empty ++ ("ok " : Str)) ++ y).length = 3 + y.length := fun y => by
    rw [show ((Str.empty ++ ("ok " : Str)) ++ y).length = (Str.empty ++ ("ok " : Str)).length + y.length from Str.length_append ..]
    rfl
  show WpX _ _ _ _ _
  refine .of (pe_fmt pp) ?_
  show WpX _ _ _ _ _
  refine h.imp fun v H1 ⟨i, hv, hs, q⟩ => .inr ⟨i, hv, i64 (i2000 hs.1 hs.2), sI i, rfl, ?_, q⟩
  have := sI_len hs.1 hs.2
  have e1 := e0 (sI i)
  rw [sizeLine_eq]
  show ((Str.empty ++ ("ok " : Str)) ++ sI i).length ≤ _
  omega
end
end TX
end
section
namespace TX
open PySem PySem.Spec PyProof.Rows L2 Evl W1 D1 MM
section
variable {P : Program} {w : World} {K : PySem.W.Frag} {mg : Str → Option Value} {base : Heap}
def S_ansE (K : PySem.W.Frag) (Cc C : Addr) (kd : PKind) : Sp := fun vs H Q E => ∃ c p l st x y e, vs = [.ref c, x, y] ∧ CoAt K H c Cc p l ∧ PgAt K H p C kd st ∧ st.ok kd ∧ st.log.length ≤ 1000 ∧ Dp K H x (.str (Edit.name e)) ∧ Dp K H y (.list (Edit.args e)) ∧ (st.busy = false → Edit.can e) ∧ AnsP K H E p C kd (fun st' H' => Q (.str (okText (st'.done.length : Nat))) H') (st.act kd e)
theorem act_end {H : Hp} {p C : Addr} {kd : PKind} {E : XK} {Q : VK} {st : Pg} {e : Edit} (ok : st.ok kd) (hc : st.busy = false → Edit.can e) (hA : AnsP K H E p C kd (fun st' H' => Q (.str (okText (st'.done.length : Nat))) H') (st.act kd e)) :
    AnsP K H E p C kd (fun st' H' => ∃ i, V.int (st'.done.length : Nat) = .int i ∧ small i ∧ Q (.str (okText i)) H') (st.act kd e) := by
  cases ho : st.act kd e with
  | error b => rw [ho] at hA; exact hA
  | ok s =>
    rw [ho] at hA
    have h := (act_ok ok hc ho).1.few
    exact fun H1 f1 hp1 => ⟨_, rfl, ⟨by omega, by omega⟩, hA H1 f1 hp1⟩
theorem ansE_ok {g Cc C : Addr} {kd : PKind} (Gc : CoC K Cc) (G : PgC K C) (D : Fm K g "answer_edit" "Console.answer_edit" s_Console_answer_edit)
    (Gput : Mf P w K mg base 9 C "put" P_Page_put (S_act K C kd "put")) (Gcut : Mf P w K mg base 9 C "cut" P_Page_cut (S_act K C kd "cut")) (Gres : Mf P w K mg base 9 C "resize" P_Page_resize (S_act K C kd "resize")) (Gturn : Mf P w K mg base 9 C "turn" P_Page_turn (S_act K C kd "turn")) (Gundo : Mf P w K mg base 9 C "undo" P_Page_undo (S_act K C kd "undo")) : Ff P w K mg base 10 g P_Console_answer_edit (S_ansE K Cc C kd) := by
  refine D.ff 9 sc_Console_answer_edit (fun vs H Q E h => ?_) (fun _ _ _ _ _ _ us hl => match us, hl with | [_, _, _], _ => rfl) fun f cdv A outer s H vs Q E hr h => ?_
  · obtain ⟨_, _, _, _, _, _, _, rfl, _⟩ := h
    rfl
  · obtain ⟨c, p, l, st, x, y, e, rfl, hco, hpg, ok, hlog, hx, hy, hfit, hA⟩ := h
    cases hx
    refine bl_when (k := Edit.name e == "put") (b_eqS (by walk_at "var") d_str) (fun hk H1 e1 => ?_) fun hk1 H1 e1 => ?_
    · cases e with
      | put a b =>
        obtain ⟨dx, ds, hc, _⟩ := hco.ex e1
        obtain ⟨dxp, v1, v2, v3, v4, v5, v6, hp, V⟩ := id (hpg.ex e1)
        have hy1 : Dp K H1 y (.list [.int a, .int b]) := dp_ex e1 hy
        refine bl_ret (w_okJ (w_methE (E := E) (p := p) (L2N.takes_of rfl rfl rfl rfl) G.cls Gput hr (v_fld (v_var 0 rfl (.inl rfl) rfl rfl rfl) hc Gc.cls (Gc.na _ (by decide)) rfl) hp (fs_no (by decide)) (ds := [.int a, .int b]) (a_cons (d_ixL (d := .int a) (x_var 2 rfl (.inl rfl) rfl hy1 rfl rfl) d_int rfl) (a_cons (d_ixL (d := .int b) (x_var 2 rfl (.inl rfl) rfl hy1 rfl rfl) d_int rfl) a_nil)) fun vs H2 e2 hvs => ?_))
        have e12 := e1.trans e2
        exact ⟨p, vs, st, .put a b, rfl, rfl, hvs, hpg.ex e12, ok, hlog, hfit, act_end (e := .put a b) ok hfit (hA.ex e12)⟩
      | _ => exact nomatch (show false = true from hk)
    have hA := hA.ex e1
    have hco := hco.ex e1
    have hpg := hpg.ex e1
    have hy := dp_ex e1 hy
    refine bl_when (k := Edit.name e == "cut") (b_eqS (by walk_at "var") d_str) (fun hk H1 e1 => ?_) fun hk2 H1 e1 => ?_
    · cases e with
      | cut a =>
        obtain ⟨dx, ds, hc, _⟩ := hco.ex e1
        obtain ⟨dxp, v1, v2, v3, v4, v5, v6, hp, V⟩ := id (hpg.ex e1)
        have hy1 : Dp K H1 y (.list [.int a]) := dp_ex e1 hy
        refine bl_ret (w_okJ (w_methE (E := E) (p := p) (L2N.takes_of rfl rfl rfl rfl) G.cls Gcut hr (v_fld (v_var 0 rfl (.inl rfl) rfl rfl rfl) hc Gc.cls (Gc.na _ (by decide)) rfl) hp (fs_no (by decide)) (ds := [.int a]) (a_cons (d_ixL (d := .int a) (x_var 2 rfl (.inl rfl) rfl hy1 rfl rfl) d_int rfl) a_nil) fun vs H2 e2 hvs => ?_))
        have e12 := e1.trans e2
        exact ⟨p, vs, st, .cut a, rfl, rfl, hvs, hpg.ex e12, ok, hlog, hfit, act_end (e := .cut a) ok hfit (hA.ex e12)⟩
      | _ => exact nomatch (show false = true from hk)
    have hA := hA.ex e1
    have hco := hco.ex e1
    have hpg := hpg.ex e1
    have hy := dp_ex e1 hy
    refine bl_when (k := Edit.name e == "resize") (b_eqS (by walk_at "var") d_str) (fun hk H1 e1 => ?_) fun hk3 H1 e1 => ?_
    · cases e with
      | resize a b =>
        obtain ⟨dx, ds, hc, _⟩ := hco.ex e1
        obtain ⟨dxp, v1, v2, v3, v4, v5, v6, hp, V⟩ := id (hpg.ex e1)
        have hy1 : Dp K H1 y (.list [.int a, .int b]) := dp_ex e1 hy
        refine bl_ret (w_okJ (w_methE (E := E) (p := p) (L2N.takes_of rfl rfl rfl rfl) G.cls Gres hr (v_fld (v_var 0 rfl (.inl rfl) rfl rfl rfl) hc Gc.cls (Gc.na _ (by decide)) rfl) hp (fs_no (by decide)) (ds := [.int a, .int b]) (a_cons (d_ixL (d := .int a) (x_var 2 rfl (.inl rfl) rfl hy1 rfl rfl) d_int rfl) (a_cons (d_ixL (d := .int b) (x_var 2 rfl (.inl rfl) rfl hy1 rfl rfl) d_int rfl) a_nil)) fun vs H2 e2 hvs => ?_))
        have e12 := e1.trans e2
        exact ⟨p, vs, st, .resize a b, rfl, rfl, hvs, hpg.ex e12, ok, hlog, hfit, act_end (e := .resize a b) ok hfit (hA.ex e12)⟩
      | _ => exact nomatch (show false = true from hk)
    have hA := hA.ex e1
    have hco := hco.ex e1
    have hpg := hpg.ex e1
    have hy := dp_ex e1 hy
    refine bl_ret (.of (pe_ifExp tt pp pp) ?_)
    show WtX _ _ _ _ _
    refine EvB.go (b := Edit.name e == "turn") (b_eqS (by walk_at "var") d_str) fun H2 e2 => ?_
    obtain ⟨dx, ds, hc, _⟩ := hco.ex e2
    obtain ⟨dxp, v1, v2, v3, v4, v5, v6, hp, V⟩ := id (hpg.ex e2)
    cases e with
    | turn =>
      show WpX _ _ _ _ _
      refine w_okJ (w_meth0E (E := E) (p := p) (L2N.takes_of rfl rfl rfl rfl) G.cls Gturn hr (v_fld (v_var 0 rfl (.inl rfl) rfl rfl rfl) hc Gc.cls (Gc.na _ (by decide)) rfl) hp (fs_no (by decide)) fun H3 e3 => ?_)
      have e23 := e2.trans e3
      exact ⟨p, [], st, .turn, rfl, rfl, .nil, hpg.ex e23, ok, hlog, hfit, act_end (e := .turn) ok hfit (hA.ex e23)⟩
    | undo =>
      show WpX _ _ _ _ _
      refine w_okJ (w_meth0E (E := E) (p := p) (L2N.takes_of rfl rfl rfl rfl) G.cls Gundo hr (v_fld (v_var 0 rfl (.inl rfl) rfl rfl rfl) hc Gc.cls (Gc.na _ (by decide)) rfl) hp (fs_no (by decide)) fun H3 e3 => ?_)
      have e23 := e2.trans e3
      exact ⟨p, [], st, .undo, rfl, rfl, .nil, hpg.ex e23, ok, hlog, hfit, act_end (e := .undo) ok hfit (hA.ex e23)⟩
    | put _ _ => exact nomatch (show true = false from hk1)
    | cut _ => exact nomatch (show true = false from hk2)
    | resize _ _ => exact nomatch (show true = false from hk3)
end
end TX
end
section
namespace TX
open PySem PySem.Spec PyProof.Rows L2 Evl W1 D1 MM HotX L2H
theorem takes_len {X : Cx} {W : WX} (tk : L2N.Takes X W) : L2N.Takes X (fun cls d _ H => ∀ σ : L2.St, σ.length = X.N.length → W cls d σ H) := fun u s' ⟨a, B, sI, pins, σ, H, cls, d, e, I, nb, up, sky, na, os, ag, w⟩ =>
  tk u s' ⟨a, B, sI, pins, σ, H, cls, d, e, I, nb, up, sky, na, os, ag, w σ I.len⟩
/-- what the clause wishes of an exception of the body -/
def Caught (X : Cx) (cs : List Value) (i : Nat) (suite : List Stmt) (D : Ends) (Eout : XK) : XK := fun cls d H' =>
  ∃ b, PySem.W.exmAny X.K cls cs = some b ∧ (b = true → ∀ (a : Addr) (oe : Obj) (pn : List (Addr × Obj)) (σ' : L2.St), H' a = none → σ'.length = X.N.length → L2N.Zn cls d oe → (∃ vs, oe.data = .fields vs) → BlX (X.suite a ((a, oe) :: pn)) suite (σ'.set i (some (.ref a))) H' { nx := fun σ' H' => D.nx (σ'.set i none) H', rt := D.rt, bk := fun σ' H' => D.bk (σ'.set i none) H', ct := fun σ' H' => D.ct (σ'.set i none) H' }) ∧ (b = false → Eout cls d H')
theorem bl_tryT {X : Cx} {n : Str} {i : Nat} {cs : List Value} {body suite rest : List Stmt} {b₀ : Stmt} {tx : Expr} {pos pos' : Pos} {σ : L2.St} {H : Hp} {D : Ends} {Eout : XK} (hs : X.stack = X.env :: X.outer) (hf : X.env.frame = some X.env.locals) (hN : X.N.Nodup) (hi : X.N[i]? = some n) (hln : X.env.kindOf n = some .local) (hc : Tst X tx cs) (tk : L2N.Takes X fun cls d _ H => Eout cls d H)
    (hb : ∀ (pn : List (Addr × Obj)) (xe : Value → Shared → Prop) (E : XK), L2N.Takes (X.tr pn xe) (fun cls d _ H => E cls d H) → PassesOwn (model X.prog X.w) X.A X.env xe → (∀ cls d H', Caught X cs i (b₀ :: suite) { D with nx := fun σ' H' => BlX X rest σ' H' D } Eout cls d H' → E cls d H') →
      BlX (X.tr pn xe) body σ H { D with nx := fun σ' H' => BlX X rest σ' H' D }) : BlX X (.Try body [.ExceptHandler (some tx) (some n) (b₀ :: suite) pos'] [] [] pos :: rest) σ H D := by
  refine bl_st (ps_try_asT (ts := fun a cls d D σ H => ∀ oe pn, L2N.Zn cls d oe → (∃ vs, oe.data = .fields vs) → BlX (X.suite a ((a, oe) :: pn)) (b₀ :: suite) σ H D) (tb := fun W D σ H => ∀ pn xe, L2N.Takes (X.tr pn xe) W → PassesOwn (model X.prog X.w) X.A X.env xe → BlX (X.tr pn xe) body σ H D) (Wout := fun cls d _ H => Eout cls d H) hs hf hN hi hln hc tk
    (fun W pn xe tk po => ⟨fun pins s σ H D I h => (h pn xe tk po).run pins s I⟩) (fun a oe cls d pn hz hd => ⟨fun pins s σ H D I h => (h oe pn hz hd).run pins s I⟩)) ?_
  intro pn xe tk' po
  refine hb pn xe _ (takes_len tk') po fun cls d H' ⟨b, h1, h2, h3⟩ σ' hl => ⟨b, h1, fun hbt a ha oe pn hz hd => h2 hbt a oe pn σ' ha hl hz hd, h3⟩
end TX
end
section
namespace TX
open PySem PySem.Spec PyProof.Rows L2 Evl W1 D1 MM HotX L2H
/-! ### a console's line -/
inductive Cmd where
  | ed (e : Edit)
  | qy (q : Qy)
  | run
def Edit.ints : Edit → List Int
  | .put p l => [p, l] | .cut p => [p] | .resize p l => [p, l] | .turn => [] | .undo => []
theorem args_ints (e : Edit) : Edit.args e = (Edit.ints e).map .int := by cases e <;> rfl
def Cmd.name : Cmd → Str
  | .ed e => Edit.name e | .qy q => Qy.name q | .run => "run"
def Cmd.ints : Cmd → List Int
  | .ed e => Edit.ints e | .qy q => Qy.args q | .run => []
def Cmd.text (m : Cmd) : Str := Txt.join " " (Cmd.name m :: (Cmd.ints m).map sI)
theorem few_ints (m : Cmd) : (Cmd.ints m).length ≤ 2 := by
  cases m with
  | ed e => cases e <;> simp [Cmd.ints, Edit.ints]
  | qy q => cases q <;> simp [Cmd.ints, Qy.args]
  | run => simp [Cmd.ints]
theorem cmd_words {m : Cmd} (h : ∀ i ∈ Cmd.ints m, small i) : Txt.split (Cmd.text m) " " = Cmd.name m :: (Cmd.ints m).map sI := by
  refine split_words (by simp) fun x hx => ?_
  rcases List.mem_cons.mp hx with rfl | hx
  · have d : ∀ z ∈ (["put", "cut", "resize", "turn", "undo", "look", "lines", "at", "size", "count", "steps", "row", "run"] : List Str), 32 ∉ TL.tl z := by decide +kernel
    refine d _ ?_
    cases m with
    | ed e => cases e <;> simp [Cmd.name, Edit.name]
    | qy q => cases q <;> simp [Cmd.name, Qy.name]
    | run => simp [Cmd.name]
  · obtain ⟨i, hi, rfl⟩ := List.mem_map.mp hx
    exact num_word (h i hi)
theorem cmd_len {m : Cmd} (h : ∀ i ∈ Cmd.ints m, small i) : (Cmd.text m).length ≤ 1000 := by
  have := join_len " " (Cmd.name m :: (Cmd.ints m).map sI) 40 fun x hx => by
    rcases List.mem_cons.mp hx with rfl | hx
    · have d : ∀ z ∈ (["put", "cut", "resize", "turn", "undo", "look", "lines", "at", "size", "count", "steps", "row", "run"] : List Str), z.length ≤ 40 := by decide +kernel
      refine d _ ?_
      cases m with
      | ed e => cases e <;> simp [Cmd.name, Edit.name]
      | qy q => cases q <;> simp [Cmd.name, Qy.name]
      | run => simp [Cmd.name]
    · obtain ⟨i, hi, rfl⟩ := List.mem_map.mp hx
      exact Nat.le_trans (sI_len (h i hi).1 (h i hi).2) (by decide)
  have h2 := few_ints m
  rw [List.length_cons, List.length_map] at this
  have e : (" " : Str).length = 1 := rfl
  rw [e] at this
  show (Txt.join " " _).length ≤ _
  omega
theorem forms_mem {m : Cmd} (h : m ≠ .run) : (Cmd.name m, ((Cmd.ints m).length : Int)) ∈ formsT := by
  cases m with
  | ed e => cases e <;> simp [Cmd.name, Edit.name, Cmd.ints, Edit.ints, formsT]
  | qy q => cases q <;> simp [Cmd.name, Qy.name, Cmd.ints, Qy.args, formsT]
  | run => exact absurd rfl h
def errText (b : Bad) : Str := (["error ", b.name] : List Str).foldl (· ++ ·) Str.empty
def cmdR (kd : PKind) (st : Pg) : Cmd → Str × Pg
  | .ed e => match st.act kd e with
    | .ok st' => (okText (st'.done.length : Nat), st')
    | .error b => (errText b, st)
  | .qy q => match qyR st q with
    | .ok r => r
    | .error b => (errText b, st)
  | .run => ("unknown command", st)
/-- a tuple of texts of the module -/
structure TupK (K : PySem.W.Frag) (mg : Str → Option Value) (x : Str) (ts : List Str) : Prop where
  ex : ∃ a, mg x = some (.ref a) ∧ ∀ H, SqT K H a (ts.map V.str)
def gNum : PyData → PyData
  | .str z => .int ((PySem.intText? z).getD 0)
  | _ => .none
theorem num_back {i : Int} (h : small i) : PySem.intText? (sI i) = some i := by
  obtain ⟨a, b⟩ := sI_nat h.1 h.2
  rw [b, a.val]
  exact congrArg some (Int.toNat_of_nonneg h.1)
theorem nums_back {l : List Int} (h : ∀ i ∈ l, small i) : ((l.map sI).map PyData.str).map gNum = l.map .int := by
  rw [List.map_map, List.map_map]
  refine List.map_congr_left fun i hi => ?_
  show PyData.int ((PySem.intText? (sI i)).getD 0) = .int i
  rw [num_back (h i hi)]
  rfl
def Cmd.can (st : Pg) : Cmd → Prop
  | .ed e => st.busy = false → Edit.can e
  | _ => True
def S_answer (K : PySem.W.Frag) (Cc C : Addr) (kd : PKind) : Sp := fun vs H Q _ => ∃ c p l st x m, vs = [.ref c, x] ∧ CoAt K H c Cc p l ∧ PgAt K H p C kd st ∧ st.ok kd ∧ st.log.length ≤ 1000 ∧ Dp K H x (.str (Cmd.text m)) ∧ (∀ i ∈ Cmd.ints m, small i) ∧ Cmd.can st m ∧
  ∀ H', FrI (· = p) H H' → PgAt K H' p C kd (cmdR kd st m).2 → Q (.str (cmdR kd st m).1) H'
section
variable {P : Program} {w : World} {K : PySem.W.Frag} {mg : Str → Option Value} {base : Heap}
theorem b_noneIn {X : Cx} {e : Expr} {σ : L2.St} {H : Hp} {pos p : Pos} {j : Nat} {l : List Int} (h : EvD X e σ H (.list (l.map .int))) (hm : behindInMarks .In e = false) : EvB X (.Compare (.Constant .none j p) [.In] [e] pos) σ H false :=
  .of (pt_cmpR op_in_seq pp pp hm) fun H1 e1 Q q => .of pe_non (h.run H1 e1 _ fun v H2 e2 hv => by
    obtain ⟨a, xs, rfl, ha, hx⟩ := dp_lst hv
    rw [dpa_ints hx] at ha
    refine ⟨a, l.map V.int, rfl, .inl ha, rfl, by rw [List.all_map, List.all_eq_true]; intro _ _; rfl, false, ?_, q H2 e2⟩
    have z : inV .non (l.map V.int) = false := by
      unfold inV
      rw [List.any_map, List.any_eq_false]
      intro i _
      exact Bool.false_ne_true
    rw [z]
    rfl)
end
end TX
end
section
namespace TX
open PySem PySem.Spec PyProof.Rows L2 Evl W1 D1 MM HotX L2H
section
variable {P : Program} {w : World} {K : PySem.W.Frag} {mg : Str → Option Value} {base : Heap}
theorem b_inTup {X : Cx} {e : Expr} {σ : L2.St} {H : Hp} {pos p : Pos} {x z : Str} {ts : List Str} (T : TupK X.K X.mg x ts) (hg : Gl X x) (h : EvD X e σ H (.str z)) (hm : behindInMarks .In (.Name x p) = false := by rfl) (h1 : (x == ("__debug__" : Str)) = false := by decide) : EvB X (.Compare e [.In] [.Name x p] pos) σ H (ts.any fun y => y == z) := by
  obtain ⟨a, hmg, ha⟩ := T.ex
  exact .of (pt_cmpR op_in_seq pp pp hm) fun H1 e1 Q q => h.run H1 e1 _ fun v H2 e2 hv => (v_glob hg hmg (v := .ref a) rfl h1).run H2 (e1.trans e2) _ fun u H3 e3 hu => by
    cases hv
    refine ⟨a, ts.map V.str, hu, .inr (ha H3), rfl, by rw [List.all_map, List.all_eq_true]; intro _ _; rfl, _, ?_, q H3 (e2.trans e3)⟩
    have z' : inV (.str z) (ts.map V.str) = ts.any fun y => y == z := by
      unfold inV
      rw [List.any_map]
      rfl
    rw [z']
    rfl
/-- f'error {e}' -/
theorem w_errJ {X : Cx} {e : Expr} {σ : L2.St} {H : Hp} {pos p1 p2 : Pos} {j : Nat} {Q : VK} (h : WpX X e σ H fun v H1 => ∃ y : Str, v = .str y ∧ y.length ≤ 1000 ∧ Q (.str ((["error ", y] : List Str).foldl (· ++ ·) Str.empty)) H1) : WpX X (.JoinedStr [.Constant (.str "error ") j p1, .FormattedValue e (-1) none p2] pos) σ H Q := by
  refine .of (pe_joined (pj_all [.Constant (.str "error ") j p1, .FormattedValue e (-1) none p2])) ?_
  show WpX _ _ _ _ _
  refine .of pe_str ?_
  refine ⟨"error ", rfl, by rw [sizeLine_eq]; decide, ?_⟩
  have e0 : ∀ y : Str, ((Str.empty ++ ("error " : Str)) ++ y).length = 6 + y.length := fun y => by
    rw [show ((Str.empty ++ ("error " : Str)) ++ y).length = (Str.empty ++ ("error " : Str)).length + y.length from Str.length_append ..]
    rfl
  show WpX _ _ _ _ _
  refine .of (pe_fmt pp) ?_
  show WpX _ _ _ _ _
  refine h.imp fun v H1 ⟨y, hv, hl, q⟩ => .inl ⟨y, hv, by rw [sizeLine_eq]; omega, y, rfl, ?_, q⟩
  have e1 := e0 y
  rw [sizeLine_eq]
  show ((Str.empty ++ ("error " : Str)) ++ y).length ≤ _
  omega
theorem name_len (b : Bad) : b.name.length ≤ 1000 := by cases b <;> decide +kernel
theorem answer_ok {g Cc C : Addr} {kd : PKind} (Gc : CoC K Cc) (B : Bi mg) (Co : Co mg) (D : Fm K g "answer" "Console.answer" s_Console_answer) (TF : TabN K w mg "FORMS" formsT ["run"]) (TE' : TupK K mg "EDITS" editsT)
    (Gn : Gf P w K mg base 1 "parse_number" P_parse_number (Spf K R_parse_number)) (Ge : Mf P w K mg base 10 Cc "answer_edit" P_Console_answer_edit (S_ansE K Cc C kd)) (Gq : Mf P w K mg base 8 Cc "answer_query" P_Console_answer_query (S_query K Cc C kd))
    (Gx : GfE P w K mg base 1 "error_name" P_error_name (S_err K fun b v _ _ => v = .str b.name)) {c1 c2 c3 : Value} (n1 : ∃ a, mg "WrapError" = some (.ref a) ∧ c1 = .ref a) (n2 : ∃ a, mg "NoPlace" = some (.ref a) ∧ c2 = .ref a) (n3 : ∃ a, mg "NoWidth" = some (.ref a) ∧ c3 = .ref a)
    (Hx : ∀ b, PySem.W.exmAny K (.ref (Bad.adr K b)) [c1, c2, c3] = some true) : Ff P w K mg base 12 g P_Console_answer (S_answer K Cc C kd) := by
  refine D.ff 11 sc_Console_answer (fun vs H Q E h => ?_) (fun _ _ _ _ _ _ us hl => match us, hl with | [_, _], _ => rfl) fun f cdv A outer s H vs Q E hr h => ?_
  · obtain ⟨_, _, _, _, _, _, rfl, _⟩ := h
    rfl
  · obtain ⟨c, p, l, st, x, m, rfl, hco, hpg, ok, hlog, hx, hsm, hcan, hQ⟩ := h
    have S := sc_Console_answer
    refine bl_starL (i := 4) (j := 5) rfl S.nd rfl rfl rfl rfl (d := .str (Cmd.name m)) (ds := ((Cmd.ints m).map sI).map .str) (EvD.is (EvN.toD (n_split (a := Cmd.text m) (b := " ") (by walk_at "var") d_str (by rfl) (by have := cmd_len hsm; omega))) (by rw [cmd_words hsm]; rfl)) (by have := few_ints m; simp; omega) fun v lo xs H1 e1 hv hlo0 hlo1 hxs => ?_
    cases hv
    have hoth : Dp K H1 (.ref lo) (.list (((Cmd.ints m).map sI).map .str)) := .lst (sq_of hlo1) hxs
    have hU := Co.unknown
    by_cases hrun : m = .run
    · subst hrun
      refine bl_when (k := true || false) (EvW.tob (w_or (l := false) (b_notInTab2 TF (by rfl) (z := "run") (by walk_at "var") (List.mem_cons_self ..)) fun h => by cases h)) (fun _ H2 e2 => ?_) (fun hk => by cases hk)
      exact bl_retD (d := .str "unknown command") (by walk_at "ev") rfl fun v H3 e3 hv => by
        cases hv
        exact hQ H3 (FrI.of (e1.trans (e2.trans e3))) (hpg.ex (e1.trans (e2.trans e3)))
    have hmem := forms_mem hrun
    refine bl_when (k := false || !(((Cmd.ints m).length : Int) == (((((Cmd.ints m).map sI).map PyData.str).length : Nat) : Int))) (EvW.tob (w_or (b_notInTab TF (by rfl) (z := Cmd.name m) (by walk_at "var") hmem) fun _ => w_or1 (b_neI (d_ixTab TF (by rfl) (by walk_at "var") hmem) (d_lenL (by rfl) B.len (by walk_at "var"))))) (fun hk => ?_) fun _ H2 e2 => ?_
    · rw [List.length_map, List.length_map, beq_self_eq_true] at hk
      cases hk
    have hoth2 := dp_ex e2 hoth
    refine s_lcL 2 rfl rfl (own := [("other", 6)]) (j := 6) (ds := ((Cmd.ints m).map sI).map .str) gNum rfl S.nd (by walk_at "var") (blkOk_by (N := N_Console_answer) (sc := defScope s_Console_answer) (by decide +kernel)) rfl rfl (fun _ => rfl) (by have := few_ints m; simp; omega) (fun d hd => ?_) ?_ (kk := fun lv xv H3 e3 hlv0 hlv1 hxv => ?_)
    · obtain ⟨z, _, rfl⟩ := List.mem_map.mp hd
      rfl
    · intro s0 H0 C0 cl0 fp0 d v H4 e4 hd hv
      obtain ⟨z, hz, rfl⟩ := List.mem_map.mp hd
      obtain ⟨i, hi, rfl⟩ := List.mem_map.mp hz
      have hs := hsm i hi
      refine EvD.is (d_call Gn (hr.mono (by decide)) (by rfl) (ds := [.str (sI i)]) (by walk_at "ea") ⟨i, rfl, hs, rfl⟩) ?_
      show PyData.int i = .int ((PySem.intText? (sI i)).getD 0)
      rw [num_back hs]
      rfl
    rw [nums_back hsm] at hxv
    have hvals : Dp K H3 (.ref lv) (.list ((Cmd.ints m).map .int)) := .lst (sq_of hlv1) hxv
    have e13 := e1.trans (e2.trans e3)
    refine bl_when (k := false) (b_noneIn (by walk_at "var") (by rfl)) (fun hk => by cases hk) fun _ H4 e4 => ?_
    have hvals := dp_ex e4 hvals
    have e14 := e13.trans e4
    obtain ⟨a1, m1, rfl⟩ := n1
    obtain ⟨a2, m2, rfl⟩ := n2
    obtain ⟨a3, m3, rfl⟩ := n3
    refine bl_tryT (i := 3) (cs := [.ref a1, .ref a2, .ref a3]) (Eout := E) rfl rfl S.nd rfl rfl (tst3 ⟨by rfl, by decide, .inl m1⟩ ⟨by rfl, by decide, .inl m2⟩ ⟨by rfl, by decide, .inl m3⟩) (L2N.takes_of rfl rfl rfl rfl) fun pn xe Eb tk po hcaught => ?_
    have hc4 := hco.ex e14
    obtain ⟨dx, ds, hc, _⟩ := id hc4
    -- what an error leads to
    have bad : ∀ (b : Bad) (H5 : Hp), Ex H4 H5 → cmdR kd st m = (errText b, st) → RsB K H5 Eb b := by
      intro b H5 e5 hres
      refine RsB.of b fun cls d H6 e6 hE => hcaught cls d H6 ⟨true, by rw [hE.1]; exact Hx b, fun _ a oe pn' σ' ha hl hz hd => ?_, fun h => by cases h⟩
      have hset : (σ'.set 3 (some (V.ref a)))[3]? = some (some (V.ref a)) := List.getElem?_set_self (by rw [hl]; show 3 < 7; decide)
      refine bl_ret (w_errJ (w_callX (HotP.suite hz hd) Gx ⟨(hr.mono (show 1 ≤ 11 by decide)).dp, (hr.mono (show 1 ≤ 11 by decide)).un⟩ (by rfl) (v_var 3 rfl (.inl rfl) hset rfl rfl) fun H7 e7 => ⟨b, rfl, hE.ex e7, fun v H8 e8 hv => ⟨b.name, hv, name_len b, ?_⟩⟩))
      have e18 := e14.trans (e5.trans (e6.trans (e7.trans e8)))
      rw [hres] at hQ
      exact hQ H8 (FrI.of e18) (hpg.ex e18)
    cases m with
    | run => exact absurd rfl hrun
    | ed e =>
        have hb : (editsT.any fun y => y == Edit.name e) = true := by cases e <;> (simp only [Edit.name]; decide +kernel)
        refine bl_ret (.of (pe_ifExp tt pp pp) ?_)
        show WtX _ _ _ _ _
        refine EvB.go (b := true) (EvB.is (b_inTup TE' (by rfl) (z := Edit.name e) (by walk_at "var")) hb) fun H5 e5 => ?_
        show WpX _ _ _ _ _
        have hv5 : Dp K H5 (.ref lv) (.list (Edit.args e)) := by rw [args_ints]; exact dp_ex e5 hvals
        refine w_methE (E := Eb) (p := c) tk Gc.cls Ge (hr.mono (by decide)) (v_var 0 rfl (.inl rfl) rfl rfl rfl) (e5 _ _ hc) rfl (ds := [.str (Edit.name e), .list (Edit.args e)]) (a_cons (by walk_at "var") (a_cons (by walk_at "var") a_nil)) fun vs H6 e6 hvs => ?_
        obtain ⟨u, y, rfl, hu, hy⟩ := dpa2 hvs
        have e16 := e14.trans (e5.trans e6)
        refine ⟨c, p, l, st, u, y, e, rfl, hco.ex e16, hpg.ex e16, ok, hlog, hu, hy, hcan, ?_⟩
        cases ho : st.act kd e with
        | error b => exact bad b H6 (e5.trans e6) (by simp only [cmdR, ho])
        | ok st' =>
          have hres : cmdR kd st (.ed e) = (okText (st'.done.length : Nat), st') := by simp only [cmdR, ho]
          rw [hres] at hQ
          exact fun H7 f7 hp7 => hQ H7 ((FrI.of e16).trans f7) hp7
    | qy q =>
        have hb : (editsT.any fun y => y == Qy.name q) = false := by cases q <;> (simp only [Qy.name]; decide +kernel)
        refine bl_ret (.of (pe_ifExp tt pp pp) ?_)
        show WtX _ _ _ _ _
        refine EvB.go (b := false) (EvB.is (b_inTup TE' (by rfl) (z := Qy.name q) (by walk_at "var")) hb) fun H5 e5 => ?_
        show WpX _ _ _ _ _
        have hv5 : Dp K H5 (.ref lv) (.list ((Qy.args q).map .int)) := dp_ex e5 hvals
        refine w_methE (E := Eb) (p := c) tk Gc.cls Gq (hr.mono (by decide)) (v_var 0 rfl (.inl rfl) rfl rfl rfl) (e5 _ _ hc) rfl (ds := [.str (Qy.name q), .list ((Qy.args q).map .int)]) (a_cons (by walk_at "var") (a_cons (by walk_at "var") a_nil)) fun vs H6 e6 hvs => ?_
        obtain ⟨u, y, rfl, hu, hy⟩ := dpa2 hvs
        have e16 := e14.trans (e5.trans e6)
        refine ⟨c, p, l, st, u, y, q, rfl, hco.ex e16, hpg.ex e16, ok, hu, hy, ?_⟩
        cases ho : qyR st q with
        | error b => exact bad b H6 (e5.trans e6) (by simp only [cmdR, ho])
        | ok r =>
          have hres : cmdR kd st (.qy q) = r := by simp only [cmdR, ho]
          rw [hres] at hQ
          obtain ⟨t, st'⟩ := r
          exact fun H7 f7 hp7 => hQ H7 ((FrI.of e16).trans f7) hp7
end
end TX
end
section
namespace TX
open PySem PySem.Spec PyProof.Rows L2 Evl W1 D1 MM
theorem cut_kept (l : List PyData) : (D1.cutD l (some (-20)) none).length ≤ 20 := by
  have h : HT.sIx l.length 0 (some (-20)) = l.length - 20 := by
    show (if (-20 : Int) < 0 then ((-20 : Int) + (l.length : Int)).toNat else min (-20 : Int).toNat l.length) = l.length - 20
    rw [if_pos (by decide)]
    omega
  unfold D1.cutD
  rw [HT.sIx_none, h, List.length_take, List.length_drop]
  omega
theorem cut_noLs {l : List PyData} {a b : Option Int} (h : noLs l = true) : noLs (D1.cutD l a b) = true := all_noLs fun d hd => noLs_all h d (List.mem_of_mem_drop (List.mem_of_mem_take hd))
def S_exec (K : PySem.W.Frag) (Cc C : Addr) (kd : PKind) : Sp := fun vs H Q _ => ∃ c p l st x m, vs = [.ref c, x] ∧ CoAt K H c Cc p l ∧ PgAt K H p C kd st ∧ st.ok kd ∧ st.log.length ≤ 1000 ∧ Dp K H x (.str (Cmd.text m)) ∧ (∀ i ∈ Cmd.ints m, small i) ∧ Cmd.can st m ∧
  ∀ H' l', FrI (fun a => a = p ∨ a = c) H H' → H l' = none → PgAt K H' p C kd (cmdR kd st m).2 → CoAt K H' c Cc p l' → Q (.str (cmdR kd st m).1) H'
theorem co_ne {K : PySem.W.Frag} {H : Hp} {c Cc p l C : Addr} {kd : PKind} {st : Pg} (h1 : CoAt K H c Cc p l) (h2 : PgAt K H p C kd st) : c ≠ p := fun e => by
  obtain ⟨dx, ds, h3, _⟩ := h1
  obtain ⟨dx', v1, v2, v3, v4, v5, v6, h4, _⟩ := h2
  rw [e, h4] at h3
  cases hk : kd.lg <;> rw [hk] at h3 <;> simp [fsOf] at h3
section
variable {P : Program} {w : World} {K : PySem.W.Frag} {mg : Str → Option Value} {base : Heap}
theorem exec_ok {g Cc C : Addr} {kd : PKind} (Gc : CoC K Cc) (B : Bi mg) (Co : Co mg) (D : Fm K g "execute" "Console.execute" s_Console_execute) (Ga : Mf P w K mg base 12 Cc "answer" P_Console_answer (S_answer K Cc C kd)) : Ff P w K mg base 13 g P_Console_execute (S_exec K Cc C kd) := by
  refine D.ff 12 sc_Console_execute (fun vs H Q E h => ?_) (fun _ _ _ _ _ _ us hl => match us, hl with | [_, _], _ => rfl) fun f cdv A outer s H vs Q E hr h => ?_
  · obtain ⟨_, _, _, _, _, _, rfl, _⟩ := h
    rfl
  · obtain ⟨c, p, l, st, x, m, rfl, hco, hpg, ok, hlog, hx, hsm, hcan, hQ⟩ := h
    have S := sc_Console_execute
    have hKe := Co.kept
    refine bl_set 2 S.nd rfl (.inl rfl) (EvP.go (i_str (by rfl) (by rfl) B (by walk_at "var") (by walk_at "kit") rfl rfl rfl) fun v H1 e1 hv => ?_)
    cases hv
    have hne := co_ne hco hpg
    refine bl_set 3 S.nd rfl (.inl rfl) (.of (pe_ifExp tt pp pp) ?_)
    show WtX _ _ _ _ _
    refine EvB.go (b := true) (b_val (by walk_at "var")) fun H2 e2 => ?_
    show WpX _ _ _ _ _
    have e12 := e1.trans e2
    obtain ⟨dx, ds, hc, _⟩ := id (hco.ex e12)
    refine w_methE (E := E) (p := c) (L2N.takes_of rfl rfl rfl rfl) Gc.cls Ga hr (v_var 0 rfl (.inl rfl) rfl rfl rfl) hc rfl (ds := [.str (Cmd.text m)]) (a_cons (by walk_at "var") a_nil) fun vs H3 e3 hvs => ?_
    obtain ⟨y, rfl, hy⟩ := dpa1 hvs
    have e13 := e12.trans e3
    refine ⟨c, p, l, st, y, m, rfl, hco.ex e13, hpg.ex e13, ok, hlog, hy, hsm, hcan, fun H4 f4 hp4 => ?_⟩
    have hco4 := (hco.ex e13).fr f4 hne
    obtain ⟨dx4, ds4, hc4, ⟨xs4, hl4, hy4⟩, hn4, hno4⟩ := id hco4
    have hd4 : Dp K H4 (.ref l) (.list ds4) := .lst (sq_of hl4) hy4
    have hx4 := f4.dp (dp_ex e13 hx)
    have F4 : FrI (fun a => a = p ∨ a = c) H H4 := (FrI.of e13).trans (f4.mono fun a h => .inl h)
    have nls : noLs (ds4 ++ [.tuple [.str (Cmd.text m), .str (cmdR kd st m).1]]) = true := all_noLs fun d hd => by
      rcases List.mem_append.mp hd with hd | hd
      · exact noLs_all hno4 d hd
      · rw [List.mem_singleton.mp hd]; rfl
    refine bl_fset (p := c) (n_slL (ds := ds4 ++ [.tuple [.str (Cmd.text m), .str (cmdR kd st m).1]]) (l := some (-20)) (u := none) (d_lst (a_starL (d_fld (v_var 0 rfl (.inl rfl) rfl rfl rfl) hc4 Gc.cls (Gc.na _ (by decide)) rfl hd4) (a_cons (d_tup (ds := [.str (Cmd.text m), .str (cmdR kd st m).1]) (a_cons (d_if (k := true) (b_val (by walk_at "var")) (fun _ => by walk_at "var") (fun h => by cases h)) (a_cons (by walk_at "var") a_nil)) (by simp)) a_nil)) (by simp; omega)) (o_some (d_neg (by walk_at "ev"))) o_none) (fun H1 => v_var 0 rfl (.inl rfl) rfl rfl rfl) hc4 Gc.cls (Gc.na _ (by decide)) (show (2 : Nat) < 900 by decide) fun u H5 H6 e5 ⟨l', xs, eu, hl0, hl1, hxs⟩ f6 hp6 => ?_
    subst eu
    have hl6 := f6.lst hl1
    have hp5 := (hp4.ex e5).fr f6 (fun h => hne h.symm)
    have hl0H : H l' = none := by
      cases hh : H l' with
      | none => rfl
      | some o =>
        rcases F4 l' o hh with z | ⟨z, _⟩
        · rw [z] at hl0; cases hl0
        · rcases z with z | z
          · obtain ⟨_, _, _, _, _, _, _, z1, _⟩ := hp4
            rw [z, z1] at hl0; cases hl0
          · rw [z, hc4] at hl0; cases hl0
    refine bl_ret ((v_var 3 rfl (.inl rfl) rfl rfl rfl).go fun v H7 e7 hv => ?_)
    rw [hv]
    have F6 : FrI (fun a => a = p ∨ a = c) H4 H6 := (FrI.of e5).trans (f6.mono fun a h => .inr h)
    exact hQ H7 l' (F4.trans (F6.trans (FrI.of e7))) hl0H (hp5.ex e7) (CoAt.ex ⟨dx4, _, hp6, ⟨xs, hl6, f6.dpa hxs⟩, cut_kept _, cut_noLs nls⟩ e7)
end
end TX
end
section
namespace TX
open PySem PySem.Spec PyProof.Rows L2 Evl W1 D1 MM
/-- what isinstance(x, Page) asks of the class C -/
structure PgI (K : PySem.W.Frag) (mg : Str → Option Value) (C : Addr) : Prop where
  ha : PySem.W.findIn K (.ref C) "__class__" = some (some (.builtin "object.__class__"))
  hn : PySem.W.specialIn K (.builtin "object.__class__") "__get__" = some (some (.builtin "getset_descriptor.__get__"))
  ht : PySem.W.takesIn K (.builtin "object.__class__") = some true
  hm : PySem.W.mroIn K C (.type "object") = some true
  pg : ∃ a, mg "Page" = some (.ref a) ∧ PySem.W.kitOne K (.ref C) (.ref a) = some true
section
variable {P : Program} {w : World} {K : PySem.W.Frag} {mg : Str → Option Value} {base : Heap}
theorem d_isPage {X : Cx} {e : Expr} {σ : L2.St} {H : Hp} {pos p p2 : Pos} {C dx b : Addr} {fs : List (Str × V)} (I : PgI X.K X.mg C) (B : Bi X.mg) (c : Cls X.K C) (hg : Gl X "isinstance") (hgx : Gl X "Page") (he : EvP X e σ H fun u _ => u = .ref b) (hb : H b = some (.ins C dx fs))
    (h1 : starEach [e, .Name "Page" p] X.env = (false, eval e X.env) :: starEach [.Name "Page" p] X.env := by rfl) (h2 : starEach [.Name "Page" p] X.env = (false, eval (.Name "Page" p) X.env) :: starEach [] X.env := by rfl) (hpl : (backTo pos (starEach [.Name "Page" p] X.env)).any (·.1) = false := by rfl) : EvD X (.Call (.Name "isinstance" p2) [e, .Name "Page" p] [] pos) σ H (.bool true) := by
  obtain ⟨a, hm, hk⟩ := I.pg
  exact .of (pe_callB call_isi hg B.isinstance boot_isinstance (pa_cons pp (pa_cons (pe_glob hgx hm (v := .ref a) rfl (by decide)) pa_nil h2) h1) (he := h1) (hpl := hpl)) fun H1 e1 Q q => he.run H1 e1 _ fun v H2 e2 hv =>
    ⟨v, .ref a, .ref C, .ref a, true, rfl, .own a, by rw [hv]; exact .base (.ins (e2 _ _ (e1 _ _ hb)) c I.ha I.hn I.ht I.hm), hk, q _ H2 e2 (.bl _)⟩
def S_eq (K : PySem.W.Frag) (C : Addr) (kd : PKind) : Sp := fun vs H Q _ => ∃ p q st st', vs = [.ref p, .ref q] ∧ PgAt K H p C kd st ∧ PgAt K H q C kd st' ∧ ∀ H', Ex H H' → Q (.bl (PyData.eqv (rowD st.now) (rowD st'.now))) H'
theorem eq_ok {g C : Addr} {kd : PKind} (G : PgC K C) (I : PgI K mg C) (B : Bi mg) (D : Fm K g "__eq__" "Page.__eq__" s_Page_eq) : Ff P w K mg base 1 g P_Page_eq (S_eq K C kd) := by
  refine D.ff 0 sc_Page_eq (fun vs H Q E h => ?_) (fun _ _ _ _ _ _ us hl => match us, hl with | [_, _], _ => rfl) fun f cdv A outer s H vs Q E hr h => ?_
  · obtain ⟨_, _, _, _, rfl, _⟩ := h
    rfl
  · obtain ⟨p, q, st, st', rfl, hp, hq, hQ⟩ := h
    obtain ⟨dx, v1, v2, v3, v4, v5, v6, hp, V⟩ := id hp
    obtain ⟨dx', u1, u2, u3, u4, u5, u6, hq, U⟩ := id hq
    refine bl_retD (d := .bool (true && PyData.eqv (rowD st.now) (rowD st'.now))) (d_and (k := true) (d_isPage I B G.cls (by rfl) (by rfl) (v_var 1 rfl (.inl rfl) rfl rfl rfl) hq) fun _ => d_one (d_eq (r64 hr) (d_fld (v_var 0 rfl (.inl rfl) rfl rfl rfl) hp G.cls (G.na _ (by decide)) rfl V.now) (d_fld (v_var 1 rfl (.inl rfl) rfl rfl rfl) hq G.cls (G.na _ (by decide)) rfl U.now) (shaped_row _) (shaped_row _))) rfl fun v H2 e2 hv => by
        cases hv
        exact hQ H2 e2
end
end TX
end
section
namespace TX
open PySem PySem.Spec PyProof.Rows L2 Evl W1 D1 MM
section
variable {X : Cx} {body fs rest : List Stmt} {f₀ : Stmt} {pos : Pos} {σ : L2.St} {H : Hp} {D : Ends}
/-- try: body; finally: suite; nothing is raised, the body runs to its end -/
theorem bl_fin0 (hb : BlX X.nox body σ H { nx := fun σ' H' => BlX X.nox (f₀ :: fs) σ' H' { nx := fun σ2 H2 => BlX X rest σ2 H2 D, rt := fun _ _ => False }, rt := fun _ _ => False, bk := fun _ _ => False, ct := fun _ _ => False }) : BlX X (.Try body [] [] (f₀ :: fs) pos :: rest) σ H D := by
  refine bl_st (t := fun D' σ H => BlX X.nox body σ H { nx := fun σ' H' => BlX X.nox (f₀ :: fs) σ' H' { nx := D'.nx, rt := fun _ _ => False }, rt := fun _ _ => False, bk := fun _ _ => False, ct := fun _ _ => False }) ⟨fun pins s σ H D I h => ?_⟩ hb
  refine wpAny_Try_finally (wpAny_mono (h.run pins s (I.wish _)) (fun f s1 z => ?_) fun _ _ z => False.elim z)
  cases f with
  | next =>
    obtain ⟨σ1, H1, I1, q1⟩ := z
    refine wpAny_execs_nil ?_
    refine wpAny_mono (q1.run pins s1 I1) (fun g s2 q => ?_) fun _ _ z => False.elim z
    cases g with
    | next =>
      obtain ⟨σ2, H2, I2, q2⟩ := q
      exact ⟨σ2, H2, I2.unwish, q2⟩
    | ret u =>
      obtain ⟨_, _, _, _, _, q⟩ := q
      exact False.elim q
    | brk =>
      obtain ⟨_, _, _, q⟩ := q
      exact False.elim q
    | cont =>
      obtain ⟨_, _, _, q⟩ := q
      exact False.elim q
  | ret u =>
    obtain ⟨_, _, _, _, _, q⟩ := z
    exact False.elim q
  | brk =>
    obtain ⟨_, _, _, q⟩ := z
    exact False.elim q
  | cont =>
    obtain ⟨_, _, _, q⟩ := z
    exact False.elim q
end
end TX
end
section
namespace TX
open PySem PySem.Spec PyProof.Rows L2 Evl W1 D1 MM
/-- try: body; except ..: nothing is raised -/
theorem bl_try0 {X : Cx} {body rest : List Stmt} {h₀ : ExceptHandler} {hs : List ExceptHandler} {pos : Pos} {σ : L2.St} {H : Hp} {D : Ends} (hb : BlX X.nox body σ H { D with nx := fun σ' H' => BlX X rest σ' H' D }) : BlX X (.Try body (h₀ :: hs) [] [] pos :: rest) σ H D :=
  bl_st (ps_try_thru0 (t := fun D σ H => BlX X.nox body σ H D) BlX.pss) hb
section
variable {P : Program} {w : World} {K : PySem.W.Frag} {mg : Str → Option Value} {base : Heap}
/-- a step without a callback, its edit fits -/
def S_stepN (K : PySem.W.Frag) (C : Addr) (kd : PKind) : Sp := fun vs H Q _ => ∃ p i x st e st', vs = [.ref p, i, x, .non] ∧ PgAt K H p C kd st ∧ st.ok kd ∧ Dp K H x (edD e) ∧ e.fit ∧ st.perform kd e = .ok st' ∧ ∀ H', FrI (· = p) H H' → PgAt K H' p C kd st' → Q .non H'
theorem stepN_ok {g C : Addr} {kd : PKind} (G : PgC K C) (D : Fm K g "step" "Page.step" s_Page_step) (Gp : Mf P w K mg base 6 C "perform" P_Page_perform (S_perform K C kd)) : Ff P w K mg base 7 g P_Page_step (S_stepN K C kd) := by
  refine D.ff 6 sc_Page_step (fun vs H Q E h => ?_) (fun _ _ _ _ _ _ us hl => match us, hl with | [_, _, _, _], _ => rfl) fun f cdv A outer s H vs Q E hr h => ?_
  · obtain ⟨_, _, _, _, _, _, rfl, _⟩ := h
    rfl
  · obtain ⟨p, i, x, st, e, st', rfl, hpg, ok, hx, hfit, ho, hQ⟩ := h
    obtain ⟨dx, v1, v2, v3, v4, v5, v6, hp, V⟩ := id hpg
    refine bl_try0 (bl_expr (w_meth (p := p) (E := E0') G.cls Gp hr passF ((v_var 0 rfl (.inl rfl) rfl rfl rfl).go fun u H1 e1 hu => ⟨hu, dx, _, e1 _ _ hp, fs_no (by decide), ?_⟩)))
    refine (show EvA _ _ _ _ [edD e] from a_cons (x_var 2 rfl (.inl rfl) rfl (dp_ex e1 hx) rfl rfl) a_nil).run H1 (Ex.refl H1) _ fun vs H2 e2 hvs => ?_
    obtain ⟨y, rfl, hy⟩ := dpa1 hvs
    have e12 := e1.trans e2
    refine ⟨p, y, st, e, rfl, hpg.ex e12, ok, hy, hfit, ?_⟩
    rw [ho]
    intro H3 f3 hp3
    refine bl_nil (bl_when (k := !isNo .none) (b_notN (x_var (d := .none) 3 rfl (.inl rfl) rfl .non rfl rfl)) (fun hk => by cases hk) fun _ H4 e4 => bl_nil (hQ H4 ((FrI.of e12).trans (f3.trans (FrI.of e4))) (hp3.ex e4)))
end
end TX
end
section
namespace TX
open PySem PySem.Spec PyProof.Rows L2 Evl W1 D1 MM LX
section
variable {X : Cx} {e : Expr} {es : List Expr} {σ : L2.St} {H : Hp} {pos p : Pos} {x : Str} {f : Addr} {o : HO} {sp : Sp} {E : XK} {Q : VK} {k j : Nat}
/-- x(e, ..), x a name that holds it -/
theorem w_cb (F : CbOk X.prog X.w X.K X.mg X.base k f o sp) (hr : Room k X.A) (hx : Passes (L2N.CX X.prog X.w) X E) (i : Nat) (hi : X.N[i]? = some x) (hv : Vis X.env.scope x) (hs : σ[i]? = some (some (.ref f))) (hf : H f = some o)
    (h : WaX X (e :: es) σ H fun vs H1 => H1 f = some o ∧ sp vs H1 Q E) (h1 : (x == ("__debug__" : Str)) = false := by decide) (h2 : (x == ("__classdict__" : Str)) = false := by decide)
    (he : starEach (e :: es) X.env = (false, eval e X.env) :: starEach es X.env := by rfl) (hpl : (backTo pos (starEach es X.env)).any (·.1) = false := by rfl) : WpX X (.Call (.Name x p) (e :: es) [] pos) σ H Q := by
  intro pins s I
  refine wpAny_Call_Name_kw ?_
  have z : PE X (.Name x p) _ := pe_var (i := i) hi hv h1 h2
  refine thn (z.run pins s σ H (fun v H1 => v = .ref f ∧ H1 = H) I ⟨.ref f, hs, rfl, rfl⟩) ?_
  rintro u s1 ⟨v, H1, I1, r1, rfl, rfl⟩
  obtain rfl : u = Value.ref f := r1
  refine PySem.W.callWith_F (first := []) (F.at_ _ _ I1.hok hf) (thn (h pos pins s1 I1) ?_) he hpl
  rintro us s2 ⟨vs, H2, I2, r, hf2, q⟩
  refine ⟨F.at_ _ _ I2.hok hf2, ?_⟩
  show wpAny _ _ (call (.ref f) us) _ _ _
  refine wpAny_call (codeAny_mono (F.run X.A X.stack s2 H2 us vs Q E hr I2.env0 hf2 r q) ?_)
  intro res s3 hq
  match res, hq with
  | .error e, hq => exact hx pins σ H2 s2 e s3 I2 hq
  | .ok (.ret u), hq => exact I2.after hq
  | .ok .next, hq => exact (show False from hq).elim
  | .ok .brk, hq => exact (show False from hq).elim
  | .ok .cont, hq => exact (show False from hq).elim
theorem b_refNotN {p2 : Pos} {n : Nat} (he : EvP X e σ H fun v _ => v = .ref f) : EvB X (.Compare e [.IsNot] [.Constant .none n p2] pos) σ H true :=
  .of (pt_cmpR op_notN1 pp pp (nomark _)) fun H1 e1 Q q => he.run H1 e1 _ fun v H2 e2 hv => (d_none (X := X) (σ := σ) (H := H2)).run H2 (Ex.refl H2) _ fun u H3 e3 hu => ⟨dp_non hu, _, rfl, by rw [hv]; exact q H3 (e2.trans e3)⟩
end
section
variable {P : Program} {w : World} {K : PySem.W.Frag} {mg : Str → Option Value} {base : Heap}
/-- a step with a callback, its edit fits -/
def S_stepC (P : Program) (w : World) (K : PySem.W.Frag) (mg : Str → Option Value) (base : Heap) (kf : Nat) (C : Addr) (kd : PKind) : Sp := fun vs H Q _ => ∃ p i x st e st' f o spf, CbOk P w K mg base kf f o spf ∧ vs = [.ref p, i, x, .ref f] ∧ H f = some o ∧ ¬ isIns o ∧ PgAt K H p C kd st ∧ st.ok kd ∧ Dp K H x (edD e) ∧ e.fit ∧ st.perform kd e = .ok st' ∧
  ∀ H1, FrI (· = p) H H1 → PgAt K H1 p C kd { st' with busy := true } → ∀ Q2 : VK, (∀ v H2 st2, PgAt K H2 p C kd st2 → (∀ H3, FrI (· = p) H2 H3 → PgAt K H3 p C kd { st2 with busy := false } → Q .non H3) → Q2 v H2) → spf [.ref p] H1 Q2 E0'
theorem stepC_ok {g C : Addr} {kd : PKind} (G : PgC K C) (D : Fm K g "step" "Page.step" s_Page_step) (Gp : Mf P w K mg base 6 C "perform" P_Page_perform (S_perform K C kd)) {k kf : Nat} (h6 : 6 ≤ k) (hkf : kf ≤ k) : Ff P w K mg base (k + 1) g P_Page_step (S_stepC P w K mg base kf C kd) := by
  refine D.ff k sc_Page_step (fun vs H Q E h => ?_) (fun _ _ _ _ _ _ us hl => match us, hl with | [_, _, _, _], _ => rfl) fun f cdv A outer s H vs Q E hr h => ?_
  · obtain ⟨_, _, _, _, _, _, _, _, _, _, rfl, _⟩ := h
    rfl
  · obtain ⟨p, i, x, st, e, st', fa, o, spf, F, rfl, hfo, hno, hpg, ok, hx, hfit, ho, hQ⟩ := h
    obtain ⟨dx, v1, v2, v3, v4, v5, v6, hp, V⟩ := id hpg
    refine bl_try0 (bl_expr (w_meth (p := p) (E := E0') G.cls Gp (hr.mono h6) passF ((v_var 0 rfl (.inl rfl) rfl rfl rfl).go fun u H1 e1 hu => ⟨hu, dx, _, e1 _ _ hp, fs_no (by decide), ?_⟩)))
    refine (show EvA _ _ _ _ [edD e] from a_cons (x_var 2 rfl (.inl rfl) rfl (dp_ex e1 hx) rfl rfl) a_nil).run H1 (Ex.refl H1) _ fun vs H2 e2 hvs => ?_
    obtain ⟨y, rfl, hy⟩ := dpa1 hvs
    have e12 := e1.trans e2
    refine ⟨p, y, st, e, rfl, hpg.ex e12, ok, hy, hfit, ?_⟩
    rw [ho]
    intro H3 f3 hp3
    have f03 : FrI (· = p) H H3 := (FrI.of e12).trans f3
    refine bl_nil (bl_when (k := true) (b_refNotN (v_var (v := .ref fa) 3 rfl (.inl rfl) rfl rfl rfl)) (fun _ H4 e4 => ?_) fun hk => by cases hk)
    have f04 := f03.trans (FrI.of e4)
    obtain ⟨dx4, u1, u2, u3, u4, u5, u6, hp4, V4⟩ := hp3.ex e4
    refine bl_fset (p := p) (d_bl (c := true)) (fun H1 => v_var 0 rfl (.inl rfl) rfl rfl rfl) hp4 G.cls (G.na _ (by decide)) fs_few fun z5 H5 H6 e5 h5 f6 hp6 => ?_
    rw [put_busy] at hp6
    have f06 := f04.trans ((FrI.of e5).trans f6)
    have V6 := (V4.fr (M := (· = p)) (FrI.of e5)).fr f6
    have hpg6 : PgAt K H6 p C kd { st' with busy := true } := ⟨dx4, u1, u2, u3, u4, z5, u6, hp6, V6.now, V6.states, V6.done, V6.wanted, f6.dp h5, V6.log⟩
    have hf6 : H6 fa = some o := (f06 fa o hfo).elim id fun z => absurd z.2 hno
    refine bl_expr (w_cb F (hr.mono hkf) passF 3 rfl (.inl rfl) rfl hf6 ?_)
    refine WaX.of (pa_cons pp pa_nil rfl) ?_
    show WpX _ _ _ _ _
    refine (v_var (v := .ref p) 0 rfl (.inl rfl) rfl rfl rfl).go fun u H7 e7 hu => ?_
    subst hu
    refine ⟨e7 _ _ hf6, ?_⟩
    refine hQ H7 (f06.trans (FrI.of e7)) (hpg6.ex e7) _ fun _ H8 st2 hp8 hend => ?_
    obtain ⟨dx8, w1, w2, w3, w4, w5, w6, hp8, V8⟩ := hp8
    refine bl_fset (p := p) (d_bl (c := false)) (fun H1 => v_var 0 rfl (.inl rfl) rfl rfl rfl) hp8 G.cls (G.na _ (by decide)) fs_few fun y5 H9 H10 e9 h9 f10 hp10 => ?_
    rw [put_busy] at hp10
    have V10 := (V8.fr (M := (· = p)) (FrI.of e9)).fr f10
    exact bl_nil (bl_nil (hend H10 ((FrI.of e9).trans f10) ⟨dx8, w1, w2, w3, w4, y5, w6, hp10, V10.now, V10.states, V10.done, V10.wanted, f10.dp h9, V10.log⟩))
end
end TX
end
section
namespace TX
open PySem PySem.Spec PyProof.Rows L2 Evl W1 D1 MM
section
variable {X : Cx} {e : Expr} {es : List Expr} {σ : L2.St} {H : Hp} {pos p p2 p3 p4 : Pos} {ds : List PyData}
/-- isinstance(e, (list, tuple)) of a list -/
theorem d_isLT {j : Nat} (hg : Gl X "isinstance") (hl : Gl X "list") (ht : Gl X "tuple") (B : Bi X.mg) (he : EvD X e σ H (.list ds))
    (h1 : starEach [e, .Tuple [.Name "list" p, .Name "tuple" p2] j p3] X.env = (false, eval e X.env) :: starEach [.Tuple [.Name "list" p, .Name "tuple" p2] j p3] X.env := by rfl) (h2 : starEach [.Tuple [.Name "list" p, .Name "tuple" p2] j p3] X.env = (false, eval (.Tuple [.Name "list" p, .Name "tuple" p2] j p3) X.env) :: starEach [] X.env := by rfl)
    (h3 : starEach [.Name "list" p, .Name "tuple" p2] X.env = (false, eval (.Name "list" p) X.env) :: starEach [.Name "tuple" p2] X.env := by rfl) (h4 : starEach [.Name "tuple" p2] X.env = (false, eval (.Name "tuple" p2) X.env) :: starEach [] X.env := by rfl)
    (hpl : (backTo pos (starEach [.Tuple [.Name "list" p, .Name "tuple" p2] j p3] X.env)).any (·.1) = false := by rfl) : EvD X (.Call (.Name "isinstance" p4) [e, .Tuple [.Name "list" p, .Name "tuple" p2] j p3] [] pos) σ H (.bool true) := by
  refine .of (pe_callB call_isiT hg B.isinstance boot_isinstance (pa_cons pp (pa_cons (pe_tup (pa_cons (pe_bltn hl B.list boot_list (v := .ty "list") rfl (by decide) (by decide)) (pa_cons (pe_bltn ht B.tuple boot_tuple (v := .ty "tuple") rfl (by decide) (by decide)) pa_nil h4) h3)) pa_nil h2) h1) (he := h1) (hpl := hpl)) fun H1 e1 Q q => he.run H1 e1 _ fun v H2 e2 hv => ?_
  refine ⟨szl (by decide), fun t ht' => ⟨v, t, [.ty "list", .ty "tuple"], .type "list", [.type "list", .type "tuple"], true, rfl, upd_same, .cons (.ty "list") (.cons (.ty "tuple") .nil), tyX_of (dp_ex (Ex.new ht') hv), ?_, q _ _ (e2.trans (Ex.new ht')) (.bl _)⟩⟩
  have z : PySem.W.kitOne X.K (.type "list") (.type "list") = some true := kit_ty (by decide +kernel)
  unfold PySem.W.kitAny
  rw [z]
end
section
variable {P : Program} {w : World} {K : PySem.W.Frag} {mg : Str → Option Value} {base : Heap}
/-- run: a batch es, W n what holds before the step n -/
def S_run (sps : Sp) (K : PySem.W.Frag) (C : Addr) (kd : PKind) : Sp := fun vs H Q _ => ∃ (p : Addr) (x ov : V) (es : List Edit) (st : Pg), vs = [.ref p, x, ov] ∧ PgAt K H p C kd st ∧ st.busy = false ∧ Dp K H x (.list (es.map edD)) ∧ es.length ≤ 20 ∧ (∀ e ∈ es, e.fit) ∧ ∃ W : Hp → Nat → Hp → Prop,
  (∀ H1, Ex H H1 → W H1 0 H1) ∧ (∀ H0 n H1, Ex H H0 → W H0 n H1 → Tu K H0 H1 ∧ ∃ st1, PgAt K H1 p C kd st1) ∧
  (∀ H0 n e y H1 H2, Ex H H0 → es[n]? = some e → W H0 n H1 → Ex H1 H2 → Dp K H2 y (edD e) → ∀ Q2 : VK, (∀ v H3, W H0 (n + 1) H3 → Q2 v H3) → sps [.ref p, .int (n : Nat), y, ov] H2 Q2 E0') ∧
  (∀ H0 H1, Ex H H0 → W H0 es.length H1 → ∃ st1, PgAt K H1 p C kd st1 ∧ ∀ H2, FrI (· = p) H1 H2 → PgAt K H2 p C kd { st1 with busy := false } → Q (.int (st1.done.length : Nat)) H2)
theorem run_ok {g C : Addr} {kd : PKind} {sps : Sp} {k : Nat} (hk : 2 ≤ k) (G : PgC K C) (B : Bi mg) (Co : Co mg) (D : ∃ fd, FunD K "run" "Page.run" (defArgs s_Page_run) (defBody s_Page_run) (defScope s_Page_run) [] [("on_step", .non)] g fd)
    (Gi : Mf P w K mg base 2 C "check_idle" P_Page_check_idle (S_idle K C kd)) (Ge : Gf P w K mg base 1 "is_edit_pages" P_is_edit (Spf K R_is_edit)) (Gs : Mf P w K mg base k C "step" P_Page_step sps) :
    ∃ fd, FnOk P w K mg base (L2N.CX P w) (k + 1) g fd P_Page_run (S_run sps K C kd) ∧ FunD K "run" "Page.run" (defArgs s_Page_run) (defBody s_Page_run) (defScope s_Page_run) [] [("on_step", .non)] g fd := by
  obtain ⟨fd, F⟩ := D
  refine ⟨fd, F.ok sc_Page_run (fun vs H Q E h => ?_) (fun cdv A outer s H vs Q E hr h => ⟨fun D σ H => BlX _ _ σ H D, BlX.pss, ?_⟩), F⟩
  · obtain ⟨_, _, _, _, _, rfl, _⟩ := h
    rfl
  · obtain ⟨p, x, ov, es, st, rfl, hpg, hb, hx, hlen, hfit, W, W0, W1, W2, W3⟩ := h
    have S := sc_Page_run
    have hBa := Co.batch
    have nls : noLs (es.map edD) = true := all_noLs fun d hd => by
      obtain ⟨e, _, rfl⟩ := List.mem_map.mp hd
      cases e <;> rfl
    obtain ⟨dx, v1, v2, v3, v4, v5, v6, hp, V⟩ := id hpg
    show BlX (cX P w K mg base N_Page_run "Page.run" s_Page_run g cdv A outer s H E) (defBody s_Page_run) (start N_Page_run [.ref p, x, ov]) H _
    refine bl_expr (w_meth0 (E := E0') (p := p) G.cls Gi (hr.mono hk) passF ((v_var 0 rfl (.inl rfl) rfl rfl rfl).go fun u H1 e1 hu => ⟨hu, dx, _, e1 _ _ hp, fs_no (by decide), p, st, rfl, hpg.ex e1, fun _ H2 e2 => ?_, fun h => by rw [hb] at h; cases h⟩))
    have e12 := e1.trans e2
    have hx2 := dp_ex e12 hx
    refine bl_when (k := !true || decide ((20 : Int) < ((es.map edD).length : Nat))) (EvW.tob (w_or (b_not (b_val (d_isLT (ds := es.map edD) (by rfl) (by rfl) (by rfl) B (x_var 1 rfl (.inl rfl) rfl hx2 rfl rfl)))) fun _ => w_or1 (b_gt (d_lenL (by rfl) B.len (x_var 1 rfl (.inl rfl) rfl hx2 rfl rfl)) (by walk_at "ev")))) (fun hk => ?_) fun _ H3 e3 => ?_
    · rw [List.length_map] at hk
      simp only [Bool.not_true, Bool.false_or, decide_eq_true_eq] at hk
      omega
    refine bl_set 3 S.nd rfl (.inl rfl) ((d_tupleL (by rfl) B.tuple (x_var 1 rfl (.inl rfl) rfl (dp_ex e3 hx2) rfl rfl)).go fun bt H4 e4 hbt => ?_)
    have e14 := e12.trans (e3.trans e4)
    refine bl_enum (i := 4) (j := 5) po rfl S.nd rfl rfl rfl rfl (by rfl) B.enumerate (ds := es.map edD) (x_var 3 rfl (.inl rfl) rfl hbt rfl rfl) nls
      (fun H5 n σ' H' => Ex H5 H' ∧ ∃ a b, σ' = [some (.ref p), some x, some ov, some bt, a, b, none, none, none, none, none]) (fun H5 e5 => ⟨Ex.refl _, _, _, rfl⟩) (fun H5 n σ' H' _ z => Tu.of z.1) (fun H5 n d v σ' H' H6 e5 hd hv z e6 => ?_) (fun H5 σ' H' e5 z => ?_)
    · obtain ⟨z1, a, b, rfl⟩ := z
      obtain ⟨e, he, rfl⟩ : ∃ e, e ∈ es ∧ d = edD e := by
        have := List.mem_of_getElem? hd
        obtain ⟨e, h1, h2⟩ := List.mem_map.mp this
        exact ⟨e, h1, h2.symm⟩
      refine bl_when (k := !true) (b_not (b_val (d_call Ge (hr.mono (by omega)) (by rfl) (ds := [edD e]) (a_cons (x_var 5 rfl (.inl rfl) rfl hv rfl rfl) a_nil) ⟨e, rfl, hfit e he, rfl⟩))) (fun hk => by cases hk) fun _ H7 e7 => bl_nil ⟨z1.trans (e6.trans e7), _, _, rfl⟩
    obtain ⟨z1, a, b, rfl⟩ := z
    have e1' := e14.trans (e5.trans z1)
    have V' := V.fr (M := fun _ => False) (FrI.of e1')
    have hp' := e1' _ _ hp
    refine bl_st (ps_asg (pos := _) pp (pg_tup (n := 5) rfl (pgs_cons (pg_name (i := 6) S.nd rfl (.inl rfl) (.inr rfl)) (pgs_cons (pg_name (i := 7) S.nd rfl (.inl rfl) (.inr rfl)) (pgs_cons (pg_name (i := 8) S.nd rfl (.inl rfl) (.inr rfl)) (pgs_cons (pg_name (i := 9) S.nd rfl (.inl rfl) (.inr rfl)) (pgs_cons (pg_name (i := 10) S.nd rfl (.inl rfl) (.inr rfl)) pgs_nil))))))) ?_
    show WpX _ _ _ _ _
    have self : ∀ H1 pos, EvP (cX P w K mg base N_Page_run "Page.run" s_Page_run g cdv A outer s H E) (.Name "self" pos) [some (.ref p), some x, some ov, some bt, a, b, none, none, none, none, none] H1 (fun u _ => u = .ref p) := fun H1 pos => v_var 0 rfl (.inl rfl) rfl rfl rfl
    refine EvP.go (d_tup (ds := [rowD st.now, statesD st.states, doneD st.done, optI st.wanted, .none]) (a_cons (d_fld (self _ _) hp' G.cls (G.na _ (by decide)) rfl V'.now) (a_cons (d_fld (self _ _) hp' G.cls (G.na _ (by decide)) rfl V'.states) (a_cons (d_fld (self _ _) hp' G.cls (G.na _ (by decide)) rfl V'.done) (a_cons (d_fld (self _ _) hp' G.cls (G.na _ (by decide)) rfl V'.wanted) (a_cons d_none a_nil))))) (by simp)) fun v H6 e6 hv => ?_
    obtain ⟨ta, xs, rfl, hta, hxs⟩ := dp_tup hv
    obtain ⟨w1, w2, w3, w4, w5, rfl, h5⟩ : ∃ w1 w2 w3 w4 w5, xs = [w1, w2, w3, w4, w5] ∧ Dp K H6 w5 .none := by
      cases hxs with | cons _ t => cases t with | cons _ t => cases t with | cons _ t => cases t with | cons _ t => cases t with | cons h5 t => cases t; exact ⟨_, _, _, _, _, rfl, h5⟩
    cases h5
    refine ⟨ta, _, rfl, hta, rfl, w1, _, rfl, w2, _, rfl, w3, _, rfl, w4, _, rfl, .non, [], rfl, rfl, ?_⟩
    have e16 := e1'.trans e6
    have hbt6 := dp_ex (e5.trans (z1.trans e6)) hbt
    refine bl_fin0 ?_
    refine bl_enum (i := 4) (j := 5) PassesOwn.never rfl S.nd rfl rfl rfl rfl (by rfl) B.enumerate (ds := es.map edD) (x_var 3 rfl (.inl rfl) rfl hbt6 rfl rfl) nls
      (fun H7 n σ' H' => W H7 n H' ∧ ∃ a b, σ' = [some (.ref p), some x, some ov, some bt, a, b, some w1, some w2, some w3, some w4, some .non]) (fun H7 e7 => ⟨W0 _ (e16.trans e7), _, _, rfl⟩) (fun H7 n σ' H' e7 z => (W1 _ n _ (e16.trans e7) z.1).1) (fun H7 n d v σ' H' H8 e7 hd hv z e8 => ?_) (fun H7 σ' H' e7 z => ?_)
    · obtain ⟨z1, a, b, rfl⟩ := z
      obtain ⟨_, st1, hpg1⟩ := W1 _ n _ (e16.trans e7) z1
      rw [List.getElem?_map] at hd
      cases he : es[n]? with
      | none => rw [he] at hd; cases hd
      | some e =>
        rw [he] at hd
        cases hd
        refine bl_expr (w_meth (p := p) (E := E0') G.cls Gs hr passF ((v_var 0 rfl (.inl rfl) rfl rfl rfl).go fun u H9 e9 hu => ?_))
        obtain ⟨dx1, u1, u2, u3, u4, u5, u6, hp1, V1⟩ := hpg1.ex (e8.trans e9)
        refine ⟨hu, dx1, _, hp1, fs_no (by decide), .of (pa_cons pp (pa_cons pp (pa_cons pp pa_nil rfl) rfl) rfl) ?_⟩
        show WpX _ _ _ _ _
        refine (v_var (v := .int (n : Nat)) 4 rfl (.inl rfl) rfl rfl rfl).go fun r1 H10 e10 hr1 => ?_
        subst hr1
        show WpX _ _ _ _ _
        refine (v_var (v := v) 5 rfl (.inl rfl) rfl rfl rfl).go fun r2 H11 e11 hr2 => ?_
        subst hr2
        show WpX _ _ _ _ _
        refine (v_var (v := ov) 2 rfl (.inl rfl) rfl rfl rfl).go fun r3 H12 e12' hr3 => ?_
        subst hr3
        exact W2 H7 n e _ H' H12 (e16.trans e7) he z1 (e8.trans (e9.trans (e10.trans (e11.trans e12')))) (dp_ex (e9.trans (e10.trans (e11.trans e12'))) hv) _ fun _ H13 q => bl_nil ⟨q, _, _, rfl⟩
    · obtain ⟨z1, a, b, rfl⟩ := z
      rw [List.length_map] at z1
      obtain ⟨st1, hpg1, W3'⟩ := W3 H7 H' (e16.trans e7) z1
      refine bl_set 10 S.nd rfl (.inl rfl) ((d_bl (c := true)).go fun v H8 e8 hv => ?_)
      cases hv
      obtain ⟨dx1, u1, u2, u3, u4, u5, u6, hp1, V1⟩ := hpg1.ex e8
      refine bl_nil (bl_fset (p := p) (d_bl (c := false)) (fun H1 => v_var 0 rfl (.inl rfl) rfl rfl rfl) hp1 G.cls (G.na _ (by decide)) fs_few fun y5 H9 H10 e9 h9 f10 hp10 => ?_)
      rw [put_busy] at hp10
      have f810 := (FrI.of (M := (· = p)) e9).trans f10
      have V10 := V1.fr f810
      refine bl_when (k := isNo (.bool true)) (b_isN (x_var (d := .bool true) 10 rfl (.inl rfl) rfl (.bl true) rfl rfl)) (fun hk => by cases hk) fun _ H11 e11 => bl_nil ?_
      have hd : Dp K H11 u3 (.tuple (st1.done.map edD)) := dp_ex e11 V10.done
      refine bl_ret ((d_lenT (by rfl) B.len (d_fld (v_var 0 rfl (.inl rfl) rfl rfl rfl) (e11 _ _ hp10) G.cls (G.na _ (by decide)) rfl hd)).go fun v H12 e12' hv => ?_)
      cases hv
      rw [List.length_map]
      have e1012 := e11.trans e12'
      exact W3' H12 ((FrI.of e8).trans (f810.trans (FrI.of e1012))) (PgAt.ex ⟨dx1, u1, u2, u3, u4, y5, u6, hp10, V10.now, V10.states, V10.done, V10.wanted, f10.dp h9, V10.log⟩ e1012)
end
end TX
end
section
namespace TX
open PySem PySem.Spec PyProof.Rows L2 Evl W1 D1 MM LX
section
variable {P : Program} {w : World} {K : PySem.W.Frag} {mg : Str → Option Value} {base : Heap}
/-- run as the class C has it -/
structure Rf (P : Program) (w : World) (K : PySem.W.Frag) (mg : Str → Option Value) (base : Heap) (k : Nat) (C : Addr) (sp : Sp) : Prop where
  ex : ∃ g fd, Meth K C "run" g ∧ FnOk P w K mg base (L2N.CX P w) k g fd P_Page_run sp ∧ (∃ ds, Vals [.non] ds ∧ Binds K fd P_Page_run ds) ∧ KBn K fd P_Page_run 2 ["on_step"] (fun us ws => us ++ ws) (fun vs zs => vs ++ zs)
/-- run, noted where the class notes -/
def S_runL (sps : Sp) (K : PySem.W.Frag) (C : Addr) (kd : PKind) : Sp := fun vs H Q _ => ∃ (p : Addr) (x ov : V) (es : List Edit) (st : Pg), vs = [.ref p, x, ov] ∧ PgAt K H p C kd st ∧ st.busy = false ∧ Dp K H x (.list (es.map edD)) ∧ es.length ≤ 20 ∧ (∀ e ∈ es, e.fit) ∧ ∃ W : Hp → Nat → Hp → Prop,
  (∀ H1, Ex H H1 → W H1 0 H1) ∧ (∀ H0 n H1, Ex H H0 → W H0 n H1 → Tu K H0 H1 ∧ ∃ st1, PgAt K H1 p C kd st1) ∧
  (∀ H0 n e y H1 H2, Ex H H0 → es[n]? = some e → W H0 n H1 → Ex H1 H2 → Dp K H2 y (edD e) → ∀ Q2 : VK, (∀ v H3, W H0 (n + 1) H3 → Q2 v H3) → sps [.ref p, .int (n : Nat), y, ov] H2 Q2 E0') ∧
  (∀ H0 H1, Ex H H0 → W H0 es.length H1 → ∃ st1, PgAt K H1 p C kd st1 ∧ st1.log.length ≤ 1000 ∧ ∀ H2, FrI (· = p) H1 H2 → PgAt K H2 p C kd (Pg.note kd "run" { st1 with busy := false }) → Q (.int (st1.done.length : Nat)) H2)
theorem run_binds {g : Addr} {fd : FuncData} (F : FunD K "run" "Page.run" (defArgs s_Page_run) (defBody s_Page_run) (defScope s_Page_run) [] [("on_step", .non)] g fd) :
    (∃ ds, Vals [.non] ds ∧ Binds K fd P_Page_run ds) ∧ KBn K fd P_Page_run 2 ["on_step"] (fun us ws => us ++ ws) (fun vs zs => vs ++ zs) := by
  refine ⟨F.binds0 2 (by simp) rfl fun D doc pm an cdv ct us ks h1 h2 => ?_, ?_⟩
  · match us, ks, h1, h2 with
    | [_, _], [_], _, _ => exact ⟨_, _, _, _, _, _, rfl, rfl, rfl⟩
  · obtain ⟨oc, od, dV, kV, doc, pm, an, cdv, ct, osl, rfl, lk, hcd, hD, hK⟩ := F.ex
    refine ⟨fun s us ws X l1 l2 => ?_, fun r1 r2 => r1.append r2⟩
    rcases hD with ⟨_, rfl⟩ | ⟨e, _⟩
    · match us, ws, l1, l2 with
      | [_, _], [_], _, _ => exact BindsTo.of_eq rfl
    · exact absurd rfl e
theorem note_plain {kd : PKind} {st : Pg} {n : Str} (h : kd.lg = false) : Pg.note kd n st = st := by
  unfold Pg.note
  rw [h]
  rfl
theorem note_log {kd : PKind} {st : Pg} {n : Str} (h : kd.lg = true) : Pg.note kd n st = { st with log := st.log ++ [(n, (st.done.length : Int))] } := by
  unfold Pg.note
  rw [h]
  rfl
theorem run_plain {C g : Addr} {kd : PKind} {sps : Sp} {k : Nat} (hlg : kd.lg = false) (M : Meth K C "run" g) (R : ∃ fd, FnOk P w K mg base (L2N.CX P w) k g fd P_Page_run (S_run sps K C kd) ∧ FunD K "run" "Page.run" (defArgs s_Page_run) (defBody s_Page_run) (defScope s_Page_run) [] [("on_step", .non)] g fd) : Rf P w K mg base k C (S_runL sps K C kd) := by
  obtain ⟨fd, F, D⟩ := R
  obtain ⟨b1, b2⟩ := run_binds D
  refine ⟨g, fd, M, fnok_imp F fun vs H Q E ⟨p, x, ov, es, st, hv, hp, hb, hx, hl, hf, W, W0, W1, W2, W3⟩ => ⟨p, x, ov, es, st, hv, hp, hb, hx, hl, hf, W, W0, W1, W2, fun H0 H1 e0 hw => ?_⟩, b1, b2⟩
  obtain ⟨st1, h1, _, h3⟩ := W3 H0 H1 e0 hw
  exact ⟨st1, h1, fun H2 f2 hp2 => h3 H2 f2 (by rw [note_plain hlg]; exact hp2)⟩
/-- LoggedPage.run as it stands at g, written in the class D -/
structure Sr (P : Program) (K : PySem.W.Frag) (g D : Addr) : Prop where
  ex : ∃ c kV doc pm an cdv ct oc od osl, SFr P K g c D "run" "LoggedPage.run" (defArgs s_LoggedPage_run) (defBody s_LoggedPage_run) (defScope s_LoggedPage_run) .none kV doc pm an cdv ct oc od osl P_LoggedPage_run ∧ PySem.W.codeIn K cdv "LoggedPage.run" = true ∧ KwdV K kV [("on_step", .non)]
theorem lrun_ok {g g0 C D : Addr} {kd : PKind} {sps : Sp} {k : Nat} (hlg : kd.lg = true) (G : PgC K C) (B : Bi mg) (M : Meth K C "run" g) (T : Sr P K g D) (U : ∃ mro, SupF K mro D C g0 "run") (Gn : Mf P w K mg base 1 C "noted" P_LoggedPage_noted (S_noted K C kd))
    (R : ∃ fd, FnOk P w K mg base (L2N.CX P w) k g0 fd P_Page_run (S_run sps K C kd) ∧ FunD K "run" "Page.run" (defArgs s_Page_run) (defBody s_Page_run) (defScope s_Page_run) [] [("on_step", .non)] g0 fd) (hk : 1 ≤ k) : Rf P w K mg base (k + 1) C (S_runL sps K C kd) := by
  obtain ⟨fd0, F0, D0⟩ := R
  obtain ⟨_, b2⟩ := run_binds D0
  obtain ⟨c, kV, doc, pm, an, cdv, ct, oc, od, osl, S, hcd, hK⟩ := T.ex
  obtain ⟨mro, U⟩ := U
  obtain ⟨f, fdn, hm, Fn, Bn⟩ := Gn.ex
  refine ⟨g, _, M, fn_ofS S.lk hcd S.scope S.cell (fun vs H Q E h => ?_) (fun A outer s H vs Q E hr h => ?_), ?_, ?_⟩
  · obtain ⟨_, _, _, _, _, rfl, _⟩ := h
    rfl
  · obtain ⟨p, x, ov, es, st, rfl, hpg, hb, hx, hl, hf, W, W0, W1, W2, W3⟩ := h
    obtain ⟨dx, v1, v2, v3, v4, v5, v6, hp, V⟩ := id hpg
    have R0 : Room k (cxS (L2N.CX P w) P w K mg base P_LoggedPage_run "LoggedPage.run" (defScope s_LoggedPage_run) g cdv c A outer s H E).A := hr
    show BodyS (cxS (L2N.CX P w) P w K mg base P_LoggedPage_run "LoggedPage.run" (defScope s_LoggedPage_run) g cdv c A outer s H E) (defBody s_LoggedPage_run) _ _ _
    refine body_ret (pes_meth2 (C := C) (E := E0') pp G.cls hm Fn (R0.mono hk) Bn passF pp (pes_superK (C := C) (E := E0') rfl S B.super U F0 R0 b2 passF aa (pk_cons pp pk_nil))) ?_
    show WpX _ _ _ _ _
    refine (v_var 0 rfl (.inl rfl) rfl rfl rfl).go fun u H1 e1 hu => ⟨p, dx, _, hu, e1 _ _ hp, fs_no (by decide), ?_⟩
    subst hu
    show WpX _ _ _ _ _
    refine EvP.go (d_str (x := "run")) fun v H2 e2 hv => ?_
    refine ⟨p, dx, _, rfl, e2 _ _ (e1 _ _ hp), ?_⟩
    refine WaX.of (pa_cons pp pa_nil rfl) ?_
    show WpX _ _ _ _ _
    refine (v_var (v := x) 1 rfl (.inl rfl) rfl rfl rfl).go fun r1 H3 e3 hr1 => ?_
    subst hr1
    show WpX _ _ _ _ _
    refine (v_var (v := ov) 2 rfl (.inl rfl) rfl rfl rfl).go fun r2 H4 e4 hr2 => ?_
    subst hr2
    have e14 := e1.trans (e2.trans (e3.trans e4))
    refine ⟨rfl, rfl, p, _, _, es, st, rfl, hpg.ex e14, hb, dp_ex e14 hx, hl, hf, W, fun H5 e5 => W0 H5 (e14.trans e5), fun H0 n H5 e5 => W1 H0 n H5 (e14.trans e5), fun H0 n e y H5 H6 e5 => W2 H0 n e y H5 H6 (e14.trans e5), fun H0 H5 e5 hw => ?_⟩
    obtain ⟨st1, hp5, l1, l2⟩ := W3 H0 H5 (e14.trans e5) hw
    cases hv
    refine ⟨st1, hp5, fun H6 f6 hp6 => ?_⟩
    exact ⟨p, { st1 with busy := false }, _, "run", _, rfl, hp6, .str _, l1, fun H7 f7 hp7 => l2 H7 (f6.trans f7) (by rw [note_log hlg]; exact hp7)⟩
  · rcases hK with e | ⟨Dd, rfl, hq⟩
    · cases e
    · obtain ⟨ks, hl, rk, hks⟩ := kwd_vals hq
      refine ⟨ks, rk, fun s us X hlen => BindsTo.of_looks fun M => ?_⟩
      have hu : us.length = 2 := by
        rw [List.length_append, hl] at hlen
        exact Nat.succ.inj hlen
      match us, ks, hu, hl, hks with
      | [_, _], [_], _, _, hks => exact KwChain.looks X hks ⟨_, _, _, _, _, _, rfl, rfl, rfl⟩
  · refine ⟨fun s us ws X l1 l2 => ?_, fun r1 r2 => r1.append r2⟩
    match us, ws, l1, l2 with
    | [_, _], [_], _, _ => exact BindsTo.of_eq rfl
end
end TX
end
section
namespace TX
open PySem PySem.Spec PyProof.Rows L2 Evl W1 D1 MM LX
section
variable {P : Program} {w : World} {K : PySem.W.Frag} {mg : Str → Option Value} {base : Heap}
theorem Rf.imp {k : Nat} {C : Addr} {sp sp' : Sp} (R : Rf P w K mg base k C sp) (h : ∀ vs H Q E, sp' vs H Q E → sp vs H Q E) : Rf P w K mg base k C sp' := by
  obtain ⟨g, fd, h1, h2, h3, h4⟩ := R.ex
  exact ⟨g, fd, h1, fnok_imp h2 h, h3, h4⟩
theorem FrI.tu {M : Addr → Prop} {H H' : Hp} (f : FrI M H H') : Tu K H H' := fun a xs h => f.sqt h
/-- run of one edit that fits, no callback -/
def S_run1 (K : PySem.W.Frag) (C : Addr) (kd : PKind) : Sp := fun vs H Q _ => ∃ p x e st st', vs = [.ref p, x, .non] ∧ PgAt K H p C kd st ∧ st.ok kd ∧ st.busy = false ∧ st.log.length ≤ 1000 ∧ Dp K H x (.list [edD e]) ∧ e.fit ∧ st.perform kd e = .ok st' ∧
  ∀ H', FrI (· = p) H H' → PgAt K H' p C kd (Pg.note kd "run" st') → Q (.int (st'.done.length : Nat)) H'
theorem run1_of {k : Nat} {C : Addr} {kd : PKind} (R : Rf P w K mg base k C (S_runL (S_stepN K C kd) K C kd)) : Rf P w K mg base k C (S_run1 K C kd) := R.imp fun vs H Q E ⟨p, x, e, st, st', hv, hp, ok, hb, hl, hx, hf, ho, hQ⟩ => by
  obtain ⟨_, hb', _, hl'⟩ := Pg.perform_ok ok hf ho
  refine ⟨p, x, .non, [e], st, hv, hp, hb, hx, by simp, fun e' he' => by rw [List.mem_singleton.mp he']; exact hf, fun H0 n H1 => FrI (· = p) H0 H1 ∧ PgAt K H1 p C kd (if n = 0 then st else st'), fun H1 e1 => ⟨FrI.refl _, hp.ex e1⟩, fun H0 n H1 e0 z => ⟨z.1.tu, _, z.2⟩, fun H0 n e' y H1 H2 e0 he z e2 hy Q2 q2 => ?_, fun H0 H1 e0 z => ?_⟩
  · cases n with
    | succ n => cases he
    | zero =>
      cases he
      exact ⟨p, _, y, st, e, st', rfl, z.2.ex e2, ok, hy, hf, ho, fun H' f hp' => q2 _ _ ⟨z.1.trans ((FrI.of e2).trans f), hp'⟩⟩
  · refine ⟨st', z.2, by rw [hl']; exact hl, fun H2 f2 hp2 => hQ H2 ((FrI.of e0).trans (z.1.trans f2)) ?_⟩
    rw [show ({ st' with busy := false } : Pg) = st' by rw [hb] at hb'; rw [← hb']] at hp2
    exact hp2
end
end TX
end
section
namespace TX
open PySem PySem.Spec PyProof.Rows L2 Evl W1 D1 MM LX
/-! ### frames of the law: instances and lists in M may be written -/
def isMu : HO → Prop
  | .ins .. => True
  | .lst _ => True
  | .frz _ (.ext _) => True
  | _ => False
def FrM (M : Addr → Prop) (H H' : Hp) : Prop := ∀ a o, H a = some o → H' a = some o ∨ (M a ∧ isMu o)
theorem isIns.mu {o : HO} (h : isIns o) : isMu o := by
  cases o with
  | ins _ _ _ => trivial
  | frz _ u => cases u <;> first | exact h | exact (show False from h).elim
  | _ => exact (show False from h).elim
theorem FrM.ofI {M : Addr → Prop} {H H' : Hp} (f : FrI M H H') : FrM M H H' := fun a o h => (f a o h).imp id fun z => ⟨z.1, z.2.mu⟩
theorem FrM.of {M : Addr → Prop} {H H' : Hp} (e : Ex H H') : FrM M H H' := fun a o h => .inl (e a o h)
theorem FrM.refl {M : Addr → Prop} (H : Hp) : FrM M H H := .of (Ex.refl H)
theorem FrM.trans {M : Addr → Prop} {H H1 H2 : Hp} (a : FrM M H H1) (b : FrM M H1 H2) : FrM M H H2 := fun x o h => (a x o h).elim (fun z => b x o z) .inr
theorem FrM.mono {M M' : Addr → Prop} {H H' : Hp} (a : FrM M H H') (m : ∀ x, M x → M' x) : FrM M' H H' := fun x o h => (a x o h).imp id fun z => ⟨m x z.1, z.2⟩
theorem FrM.upd {M : Addr → Prop} {H : Hp} {p : Addr} {o u : HO} (hp : H p = some o) (ho : isMu o) (hm : M p) : FrM M H (upd H p u) := fun a x h => by
  by_cases e : a = p
  · subst e
    rw [hp] at h
    cases h
    exact .inr ⟨hm, ho⟩
  · exact .inl (by rw [upd_ne e]; exact h)
theorem FrM.keep {M : Addr → Prop} {H H' : Hp} (f : FrM M H H') {a : Addr} {o : HO} (h : H a = some o) (n : ¬ M a) : H' a = some o := (f a o h).elim id fun z => absurd z.1 n
theorem FrM.tu {M : Addr → Prop} {K : PySem.W.Frag} {H H' : Hp} (f : FrM M H H') : Tu K H H' := fun a xs h => by
  rcases h with h | h
  · rcases h with h | ⟨o, h⟩
    · exact .inl (.inl ((f a _ h).elim id fun z => z.2.elim))
    · exact .inl (.inr ⟨o, (f a _ h).elim id fun z => z.2.elim⟩)
  · exact .inr h
theorem FrM.dp {M : Addr → Prop} {K : PySem.W.Frag} {H H' : Hp} (f : FrM M H H') {v : V} {d : PyData} (n : noL d = true) (h : Dp K H v d) : Dp K H' v d := dp_tu f.tu n h
theorem FrM.dpa {M : Addr → Prop} {K : PySem.W.Frag} {H H' : Hp} (f : FrM M H H') {v : List V} {d : List PyData} (n : noLs d = true) (h : DpAll K H v d) : DpAll K H' v d := dpa_tu f.tu n h
theorem noL_edit (e : Edit) : noL (edD e) = true := by cases e <;> rfl
theorem noL_states (l : List (List Int)) : noL (statesD l) = true := by
  unfold statesD
  rw [noL]
  exact noLs_map rowD (fun r => noL_row r) l
theorem noL_done (l : List Edit) : noL (doneD l) = true := by
  unfold doneD
  rw [noL]
  exact noLs_map edD noL_edit l
theorem noL_log (l : List (Str × Int)) : noL (logD l) = true := by
  unfold logD
  rw [noL]
  exact noLs_map _ (fun _ => rfl) l
theorem noL_opt (o : Option Int) : noL (optI o) = true := by cases o <;> rfl
theorem PgV.frm {M : Addr → Prop} {K : PySem.W.Frag} {H H' : Hp} {st : Pg} {v1 v2 v3 v4 v5 v6 : V} (h : PgV K H st v1 v2 v3 v4 v5 v6) (f : FrM M H H') : PgV K H' st v1 v2 v3 v4 v5 v6 :=
  ⟨f.dp (noL_row _) h.now, f.dp (noL_states _) h.states, f.dp (noL_done _) h.done, f.dp (noL_opt _) h.wanted, f.dp rfl h.busy, f.dp (noL_log _) h.log⟩
theorem PgAt.frm {M : Addr → Prop} {K : PySem.W.Frag} {H H' : Hp} {p C : Addr} {kd : PKind} {st : Pg} (h : PgAt K H p C kd st) (f : FrM M H H') (hn : ¬ M p) : PgAt K H' p C kd st := by
  obtain ⟨dx, v1, v2, v3, v4, v5, v6, h1, h2⟩ := h
  exact ⟨dx, v1, v2, v3, v4, v5, v6, f.keep h1 hn, h2.frm f⟩
theorem CoAt.frm {M : Addr → Prop} {K : PySem.W.Frag} {H H' : Hp} {c Cc p l : Addr} (h : CoAt K H c Cc p l) (f : FrM M H H') (hn : ¬ M c) (hl : ¬ M l) : CoAt K H' c Cc p l := by
  obtain ⟨dx, ds, h1, ⟨xs, h2, h3⟩, h4, h5⟩ := h
  exact ⟨dx, ds, f.keep h1 hn, ⟨xs, f.keep h2 hl, f.dpa h5 h3⟩, h4, h5⟩
/-! ### the law's stream of numbers -/
structure StAt (H : Hp) (a l0 l1 : Addr) (n : Nat) : Prop where
  ex : ∃ (ns ms : List Int) (t : Int), H a = some (.lst [.ref l0, .ref l1, .int t]) ∧ H l0 = some (.lst (ns.map .int)) ∧ H l1 = some (.lst (ms.map .int)) ∧ ms ≠ [] ∧ ms.length ≤ 100 ∧ ns.length ≤ 100 ∧ 0 ≤ t ∧ t ≤ n
  d01 : l0 ≠ l1
  da0 : a ≠ l0
  da1 : a ≠ l1
theorem StAt.frm {M : Addr → Prop} {H H' : Hp} {a l0 l1 : Addr} {n : Nat} (h : StAt H a l0 l1 n) (f : FrM M H H') (ha : ¬ M a) (h0 : ¬ M l0) (h1 : ¬ M l1) : StAt H' a l0 l1 n := by
  obtain ⟨ns, ms, t, e1, e2, e3, r⟩ := h.ex
  exact ⟨⟨ns, ms, t, f.keep e1 ha, f.keep e2 h0, f.keep e3 h1, r⟩, h.d01, h.da0, h.da1⟩
theorem StAt.ex' {H H' : Hp} {a l0 l1 : Addr} {n : Nat} (h : StAt H a l0 l1 n) (e : Ex H H') : StAt H' a l0 l1 n := h.frm (M := fun _ => False) (FrM.of e) id id id
theorem StAt.mono {H : Hp} {a l0 l1 : Addr} {n m : Nat} (h : StAt H a l0 l1 n) (e : n ≤ m) : StAt H a l0 l1 m := by
  obtain ⟨ns, ms, t, e1, e2, e3, e4, e5, e6, e7, e8⟩ := h.ex
  exact ⟨⟨ns, ms, t, e1, e2, e3, e4, e5, e6, e7, by omega⟩, h.d01, h.da0, h.da1⟩
section
variable {X : Cx} {a b e : Expr} {es : List Expr} {σ : L2.St} {H : Hp} {pos p : Pos} {x : Str} {i j : Int} {l : Addr} {xs : List V} {v : V}
/-- e[i], the very value -/
theorem v_ixL (ha : EvP X a σ H fun u _ => u = .ref l) (hl : H l = some (.lst xs)) (hb : EvD X b σ H (.int i)) (hi : atI xs i = some v) (hs : PlainIx b := by intro _ _; rfl) : EvP X (.Subscript a b pos) σ H fun u _ => u = v :=
  .of (pe_ix ix_list pp pp hs) fun H1 e1 Q q => ha.run H1 e1 _ fun y H2 e2 hy => hb.run H2 (e1.trans e2) _ fun z H3 e3 hz => ⟨l, xs, i, v, hy, dp_int hz, sq_of ((e1.trans (e2.trans e3)) _ _ hl), hi, q v H3 (e2.trans e3) rfl⟩
theorem d_opC {op : Operator} {C : Int → Int → Prop} {g : Int → Int → Int} (ho : OpR X (binaryOp op) (rI C fun i j => .int (g i j))) (ha : EvD X a σ H (.int i)) (hb : EvD X b σ H (.int j)) (hC : C i j) : EvD X (.BinOp a op b pos) σ H (.int (g i j)) :=
  d_op ho ha hb fun y z H2 _ hy hz Q q => by
    cases hy; cases hz
    exact ⟨i, j, rfl, rfl, hC, q _ H2 (Ex.refl H2) (.int _)⟩
theorem d_mod (ha : EvD X a σ H (.int i)) (hb : EvD X b σ H (.int j)) (hj : 0 < j) : EvD X (.BinOp a .Mod b pos) σ H (.int (i % j)) := d_opC (C := fun _ j => 0 < j) (g := fun i j => i % j) op_mod ha hb hj
theorem d_fdv (ha : EvD X a σ H (.int i)) (hb : EvD X b σ H (.int j)) (hj : 0 < j ∧ j < 1073741824) : EvD X (.BinOp a .FloorDiv b pos) σ H (.int (i / j)) := d_opC (C := CDiv) (g := fun i j => i / j) op_fdiv ha hb hj
theorem d_mulL (ha : EvD X a σ H (.int i)) (hb : EvD X b σ H (.int j)) (hi : -(2 ^ 64) < i ∧ i < 2 ^ 64) : EvD X (.BinOp a .Mult b pos) σ H (.int (i * j)) := d_opC (C := CMul) (g := fun i j => i * j) op_mul ha hb (.inl hi)
theorem d_max2 (hc : X.calm = true) (hg : Gl X "max") (B : Bi X.mg) (ha : EvD X a σ H (.int i)) (hb : EvD X b σ H (.int j)) (h1 : starEach [a, b] X.env = (false, eval a X.env) :: starEach [b] X.env := by rfl) (h2 : starEach [b] X.env = (false, eval b X.env) :: starEach [] X.env := by rfl) (hpl : (backTo pos (starEach [b] X.env)).any (·.1) = false := by rfl) : EvD X (.Call (.Name "max" p) [a, b] [] pos) σ H (.int (max i j)) :=
  d_cb (x := "max") (id := "max") (call_max2 hc) hg B.max boot_max (a_cons ha (a_cons hb a_nil h2) h1) (fun vs H2 _ hvs Q q => by
    obtain ⟨y, z, rfl, hy, hz⟩ := dpa2 hvs
    cases hy; cases hz
    refine ⟨i, j, rfl, q _ H2 (Ex.refl H2) ?_⟩
    rw [show max i j = if j > i then j else i by split <;> omega]
    exact .int _) (he := h1) (hpl := hpl)
theorem d_min2 (hc : X.calm = true) (hg : Gl X "min") (B : Bi X.mg) (ha : EvD X a σ H (.int i)) (hb : EvD X b σ H (.int j)) (h1 : starEach [a, b] X.env = (false, eval a X.env) :: starEach [b] X.env := by rfl) (h2 : starEach [b] X.env = (false, eval b X.env) :: starEach [] X.env := by rfl) (hpl : (backTo pos (starEach [b] X.env)).any (·.1) = false := by rfl) : EvD X (.Call (.Name "min" p) [a, b] [] pos) σ H (.int (min i j)) :=
  d_cb (x := "min") (id := "min") (call_min2 hc) hg B.min boot_min (a_cons ha (a_cons hb a_nil h2) h1) (fun vs H2 _ hvs Q q => by
    obtain ⟨y, z, rfl, hy, hz⟩ := dpa2 hvs
    cases hy; cases hz
    refine ⟨i, j, rfl, q _ H2 (Ex.refl H2) ?_⟩
    rw [show min i j = if j < i then j else i by split <;> omega]
    exact .int _) (he := h1) (hpl := hpl)
/-- o[i] = e -/
theorem bl_setix {o k value : Expr} {rest : List Stmt} {D : Ends} {pos' : Pos} (h : WpX X value σ H fun v H1 => WpX X o σ H1 fun u H2 => WpX X k σ H2 fun y H3 => ∃ p xs i j, u = .ref p ∧ y = .int i ∧ H3 p = some (.lst xs) ∧ ixN xs.length i = some j ∧ BlX X rest σ (upd H3 p (.lst (xs.set j v))) D)
    (hp : PS X (.Assign [.Subscript o k pos'] value pos) (tAsg (fun σ H Q => WpX X value σ H Q) (gSub (fun σ H Q => WpX X o σ H Q) (fun σ H Q => WpX X k σ H Q) rSetL)) := by exact ps_asg pp (pg_sub pp pp set_list)) : BlX X (.Assign [.Subscript o k pos'] value pos :: rest) σ H D :=
  bl_st hp (h.imp fun v H1 h1 => h1.imp fun u H2 h2 => h2.imp fun y H3 h3 => h3)
end
end TX
end
section
namespace TX
open PySem PySem.Spec PyProof.Rows L2 Evl W1 D1 MM LX
section
variable {P : Program} {w : World} {K : PySem.W.Frag} {mg : Str → Option Value} {base : Heap}
/-- a number below many; the stream goes on -/
def S_draw : Sp := fun vs H Q _ => ∃ a l0 l1 n many, vs = [.ref a, .int many] ∧ StAt H a l0 l1 n ∧ n ≤ 1000000 ∧ 0 < many ∧ many < 1000000 ∧ ∀ r H', 0 ≤ r → r < many → FrM (fun b => b = a ∨ b = l0) H H' → StAt H' a l0 l1 (n + 1) → Q (.int r) H'
theorem atI2 {l : List V} {i : Int} {n : Nat} {v : V} (hi : i = (n : Int)) (h : l[n]? = some v) : atI l i = some v := by
  have hn := (List.getElem?_eq_some_iff.mp h).1
  unfold atI ixN
  rw [if_pos (by omega), if_pos (by omega)]
  have : i.toNat = n := by omega
  rw [this]
  exact h
theorem ixN_nat {n : Nat} {i : Int} (h0 : 0 ≤ i) (h1 : i < n) : ixN n i = some i.toNat := by
  unfold ixN
  rw [if_pos h0, if_pos (by omega)]
theorem seqIx0 {n : Nat} (h : 0 < n) : seqIndex? 0 n = some 0 := by
  unfold seqIndex?
  have : (0 : Int) < (n : Int) := by omega
  simp only [Int.lt_irrefl, if_false, this, decide_true, Bool.and_true, Int.le_refl, if_true, Int.toNat_zero]
theorem draw_ok (D : Df K mg "_law_draw" s__law_draw) (B : Bi mg) : Gf P w K mg base 1 "_law_draw" P__law_draw S_draw := by
  refine D.gf 0 sc__law_draw (fun vs H Q E h => ?_) (fun _ _ _ _ _ _ us hl => match us, hl with | [_, _], _ => rfl) fun cdv A outer s H vs Q E hr h => ?_
  · obtain ⟨_, _, _, _, _, rfl, _⟩ := h
    rfl
  · obtain ⟨a, l0, l1, n, many, rfl, hst, hn, hm0, hm1, hQ⟩ := h
    have S := sc__law_draw
    obtain ⟨ns, ms, t, ha, h0, h1, hms, hml, hnl, ht0, ht1⟩ := hst.ex
    have d01 := hst.d01
    have da0 := hst.da0
    have da1 := hst.da1
    refine bl_while po (fun m σ' H' => ∃ (ns' : List Int) (o5 : Option V), m = ns'.length ∧ ns'.length ≤ 100 ∧ σ' = [some (.ref a), some (.int many), none, none, none, o5] ∧ H' a = some (.lst [.ref l0, .ref l1, .int t]) ∧ H' l0 = some (.lst (ns'.map .int)) ∧ H' l1 = some (.lst (ms.map .int)) ∧ FrM (fun b => b = a ∨ b = l0) H H') ns.length ⟨ns, none, rfl, hnl, rfl, ha, h0, h1, FrM.refl H⟩ ?_
    rintro m σ' H' ⟨ns', o5, rfl, hl', rfl, ha', h0', h1', hF⟩
    have stv : ∀ H1 pos, EvP (cX P w K mg base N__law_draw "_law_draw" s__law_draw (He.ga K "_law_draw") cdv A outer s H E) (.Name "_law_stream_here" pos) [some (.ref a), some (.int many), none, none, none, o5] H1 (fun u _ => u = .ref a) := fun H1 pos => v_var 0 rfl (.inl rfl) rfl rfl rfl
    have dl : Dp K H' (.ref l0) (.list (ns'.map .int)) := .lst (sq_of h0') (ints_dpa ns')
    have dl1 : Dp K H' (.ref l1) (.list (ms.map .int)) := .lst (sq_of h1') (ints_dpa ms)
    have dst : Dp K H' (.ref a) (.list [.list (ns'.map .int), .list (ms.map .int), .int t]) := .lst (sq_of ha') (.cons dl (.cons dl1 (.cons (.int t) .nil)))
    refine ⟨!(ns'.map PyData.int).isEmpty, EvB.is (b_ne (r64 hr) (d_ixL (x_var 0 rfl (.inl rfl) rfl dst rfl rfl) d_int rfl) (d_lst a_nil (by decide)) (shaped_ints _) shaped_nil) (by rw [eqv_nil]), fun hk H1 e1 => ?_, fun hk H1 e1 => ?_⟩
    · cases ns' with
      | nil => cases hk
      | cons r rs =>
        refine bl_set 5 S.nd rfl (.inl rfl) ((v_ixL (v := .int r) (v_ixL (stv _ _) (e1 _ _ ha') d_int rfl) (e1 _ _ h0') d_int (atI2 (n := 0) rfl rfl)).go fun v H2 e2 hv => ?_)
        subst hv
        have e12 := e1.trans e2
        have stv2 : ∀ H1 pos, EvP (cX P w K mg base N__law_draw "_law_draw" s__law_draw (He.ga K "_law_draw") cdv A outer s H E) (.Name "_law_stream_here" pos) [some (.ref a), some (.int many), none, none, none, some (.int r)] H1 (fun u _ => u = .ref a) := fun H1 pos => v_var 0 rfl (.inl rfl) rfl rfl rfl
        refine bl_when (k := decide (0 < r)) (b_gt (x_var (d := .int r) 5 rfl (.inl rfl) rfl (.int r) rfl rfl) d_int) (fun hk2 H3 e3 => ?_) fun hk2 H3 e3 => ?_
        · have e13 := e12.trans e3
          refine bl_setix ((d_fdv (x_var (d := .int r) 5 rfl (.inl rfl) rfl (.int r) rfl rfl) (x_var (d := .int many) 1 rfl (.inl rfl) rfl (.int many) rfl rfl) ⟨hm0, by omega⟩).go fun v H4 e4 hv => (v_ixL (stv2 _ _) ((e13.trans e4) _ _ ha') d_int rfl).go fun u H5 e5 hu => (d_int (i := 0)).go fun y H6 e6 hy => ⟨l0, _, 0, 0, hu, dp_int hy, (e13.trans (e4.trans (e5.trans e6))) _ _ h0', ixN_nat (by omega) (by simp), ?_⟩)
          cases hv
          have e16 := e13.trans (e4.trans (e5.trans e6))
          have f6 : FrM (fun b => b = a ∨ b = l0) H6 (upd H6 l0 (.lst (((r :: rs).map V.int).set 0 (.int (r / many))))) := FrM.upd (e16 _ _ h0') trivial (.inr rfl)
          refine bl_ret ((d_mod (x_var (d := .int r) 5 rfl (.inl rfl) rfl (.int r) rfl rfl) (x_var (d := .int many) 1 rfl (.inl rfl) rfl (.int many) rfl rfl) hm0).go fun v H7 e7 hv => ?_)
          cases hv
          refine hQ _ H7 (Int.emod_nonneg _ (by omega)) (Int.emod_lt_of_pos _ hm0) (hF.trans ((FrM.of e16).trans (f6.trans (FrM.of e7)))) ⟨⟨(r / many) :: rs, ms, t, e7 _ _ ?_, e7 _ _ upd_same, e7 _ _ ?_, hms, hml, hl', ht0, by omega⟩, d01, da0, da1⟩
          · rw [upd_ne da0]
            exact e16 _ _ ha'
          · rw [upd_ne (Ne.symm d01)]
            exact e16 _ _ h1'
        · have e13 := e12.trans e3
          refine bl_expr (.of (pe_bm PySem.F.plainAttrs_list PySem.F.slot_list_pop PySem.F.type_list_pop mt_popAt pp (pa_cons pp pa_nil rfl)) ?_)
          show WpX _ _ _ _ _
          refine (v_ixL (stv2 _ _) (e13 _ _ ha') d_int rfl).go fun u H4 e4 hu => ?_
          subst hu
          have e14 := e13.trans e4
          refine ⟨.inl ⟨rfl, _, sq_of (e14 _ _ h0')⟩, ?_⟩
          show WpX _ _ _ _ _
          refine (d_int (i := 0)).go fun y H5 e5 hy => ?_
          cases hy
          have e15 := e14.trans e5
          have f6 : FrM (fun b => b = a ∨ b = l0) H5 (upd H5 l0 (.lst (((r :: rs).map V.int).eraseIdx 0))) := FrM.upd (e15 _ _ h0') trivial (.inr rfl)
          refine ⟨l0, _, 0, 0, .int r, rfl, rfl, e15 _ _ h0', by decide, by decide, seqIx0 (by simp), rfl, ?_⟩
          refine bl_nil ⟨rs.length, Nat.lt_succ_self _, rs, _, rfl, Nat.le_trans (Nat.le_succ _) hl', rfl, ?_, upd_same, ?_, hF.trans ((FrM.of e15).trans f6)⟩
          · rw [upd_ne da0]
            exact e15 _ _ ha'
          · rw [upd_ne (Ne.symm d01)]
            exact e15 _ _ h1'
    · cases ns' with
      | cons r rs => cases hk
      | nil =>
        have hlen : 0 < ms.length := List.length_pos_iff.mpr hms
        have dl1' := dp_ex e1 dl1
        have dst' := dp_ex e1 dst
        refine bl_set 2 S.nd rfl (.inl rfl) ((d_add (d_ixL (d := .int t) (i := 2) (x_var 0 rfl (.inl rfl) rfl dst' rfl rfl) d_int rfl) d_int).go fun v H2 e2 hv => ?_)
        cases hv
        have e12 := e1.trans e2
        have stv2 : ∀ H1 pos, EvP (cX P w K mg base N__law_draw "_law_draw" s__law_draw (He.ga K "_law_draw") cdv A outer s H E) (.Name "_law_stream_here" pos) [some (.ref a), some (.int many), some (.int (t + 1)), none, none, o5] H1 (fun u _ => u = .ref a) := fun H1 pos => v_var 0 rfl (.inl rfl) rfl rfl rfl
        refine bl_setix ((show EvD _ _ _ _ (.int (t + 1)) from x_var 2 rfl (.inl rfl) rfl (.int _) rfl rfl).go fun v H4 e4 hv => (stv2 _ _).go fun u H5 e5 hu => (d_int (i := 2)).go fun y H6 e6 hy => ⟨a, _, 2, 2, hu, dp_int hy, (e12.trans (e4.trans (e5.trans e6))) _ _ ha', rfl, ?_⟩)
        cases hv
        have e16 := e12.trans (e4.trans (e5.trans e6))
        have f6 : FrM (fun b => b = a ∨ b = l0) H6 (upd H6 a (.lst (([.ref l0, .ref l1, .int t] : List V).set 2 (.int (t + 1))))) := FrM.upd (e16 _ _ ha') trivial (.inl rfl)
        have ha7 : (upd H6 a (.lst (([.ref l0, .ref l1, .int t] : List V).set 2 (.int (t + 1))))) a = some (.lst [.ref l0, .ref l1, .int (t + 1)]) := upd_same
        have h07 : (upd H6 a (.lst (([.ref l0, .ref l1, .int t] : List V).set 2 (.int (t + 1))))) l0 = some (.lst []) := by rw [upd_ne (Ne.symm da0)]; exact e16 _ _ h0'
        have h17 : (upd H6 a (.lst (([.ref l0, .ref l1, .int t] : List V).set 2 (.int (t + 1))))) l1 = some (.lst (ms.map .int)) := by rw [upd_ne (Ne.symm da1)]; exact e16 _ _ h1'
        generalize upd H6 a (.lst (([.ref l0, .ref l1, .int t] : List V).set 2 (.int (t + 1)))) = H7 at f6 ha7 h07 h17 ⊢
        have dl7 : Dp K H7 (.ref l1) (.list (ms.map .int)) := .lst (sq_of h17) (ints_dpa ms)
        have dst7 : Dp K H7 (.ref a) (.list [.list [], .list (ms.map .int), .int (t + 1)]) := .lst (sq_of ha7) (.cons (.lst (sq_of h07) .nil) (.cons dl7 (.cons (.int _) .nil)))
        have q0 := Int.emod_nonneg (t + 1) (b := (ms.length : Int)) (by omega)
        have q1 := Int.emod_lt_of_pos (t + 1) (b := (ms.length : Int)) (by omega)
        obtain ⟨cv, hcv⟩ : ∃ cv, ms[((t + 1) % (ms.length : Int)).toNat]? = some cv := ⟨_, List.getElem?_eq_getElem (by omega)⟩
        have hix : atI (ms.map PyData.int) ((t + 1) % (ms.length : Int)) = some (.int cv) := by
          unfold atI
          rw [List.length_map, ixN_nat q0 q1]
          show (ms.map PyData.int)[_]? = _
          rw [List.getElem?_map, hcv]
          rfl
        have c0 := Int.emod_nonneg cv (b := 2147483587) (by decide)
        have c1 := Int.emod_lt_of_pos cv (b := 2147483587) (by decide)
        refine bl_set 3 S.nd rfl (.inl rfl) ((d_mod (d_ixL (d_ixL (i := 1) (x_var 0 rfl (.inl rfl) rfl dst7 rfl rfl) d_int rfl) (d_mod (show EvD _ _ _ _ (.int (t + 1)) from x_var 2 rfl (.inl rfl) rfl (.int _) rfl rfl) (EvD.is (d1 := .int (ms.length : Nat)) (d_lenL (by rfl) B.len (d_ixL (d := .list (ms.map .int)) (i := 1) (x_var 0 rfl (.inl rfl) rfl dst7 rfl rfl) d_int rfl)) (by rw [List.length_map])) (by omega)) hix) d_int (by decide)).go fun v H8 e8 hv => ?_)
        cases hv
        generalize cv % 2147483587 = c at c0 c1 ⊢
        have cvar : ∀ H1 pos, EvD (cX P w K mg base N__law_draw "_law_draw" s__law_draw (He.ga K "_law_draw") cdv A outer s H E) (.Name "_law_cell" pos) [some (.ref a), some (.int many), some (.int (t + 1)), some (.int c), none, o5] H1 (.int c) := fun H1 pos => x_var 3 rfl (.inl rfl) rfl (.int _) rfl rfl
        have tvar : ∀ H1 pos, EvD (cX P w K mg base N__law_draw "_law_draw" s__law_draw (He.ga K "_law_draw") cdv A outer s H E) (.Name "_law_turn" pos) [some (.ref a), some (.int many), some (.int (t + 1)), some (.int c), none, o5] H1 (.int (t + 1)) := fun H1 pos => x_var 2 rfl (.inl rfl) rfl (.int _) rfl rfl
        refine bl_set 4 S.nd rfl (.inl rfl) ((d_mod (d_add (d_add (d_mulL (cvar _ _) (d_add d_int (d_mulL d_int (tvar _ _) (by decide))) ⟨by omega, by omega⟩) (d_mulL (d_mulL d_int (tvar _ _) (by decide)) (tvar _ _) ⟨by omega, by omega⟩)) d_int) d_int (by decide)).go fun v H9 e9 hv => ?_)
        cases hv
        generalize hmx : (c * (16807 + 69621 * (t + 1)) + 40692 * (t + 1) * (t + 1) + 53) % 2147483647 = mx
        have m0 : 0 ≤ mx := by rw [← hmx]; exact Int.emod_nonneg _ (by decide)
        have m1 : mx < 2147483647 := by rw [← hmx]; exact Int.emod_lt_of_pos _ (by decide)
        have mvar : ∀ H1 pos, EvD (cX P w K mg base N__law_draw "_law_draw" s__law_draw (He.ga K "_law_draw") cdv A outer s H E) (.Name "_law_mixed" pos) [some (.ref a), some (.int many), some (.int (t + 1)), some (.int c), some (.int mx), o5] H1 (.int mx) := fun H1 pos => x_var 4 rfl (.inl rfl) rfl (.int _) rfl rfl
        refine bl_ret ((d_mod (d_fdv (d_mod (d_mulL (mvar _ _) (mvar _ _) ⟨by omega, by omega⟩) d_int (by decide)) d_int (by decide)) (x_var (d := .int many) 1 rfl (.inl rfl) rfl (.int many) rfl rfl) hm0).go fun v H10 e10 hv => ?_)
        cases hv
        have e710 := e8.trans (e9.trans e10)
        exact hQ _ H10 (Int.emod_nonneg _ (by omega)) (Int.emod_lt_of_pos _ hm0) (hF.trans ((FrM.of e16).trans (f6.trans (FrM.of e710)))) ⟨⟨[], ms, t + 1, e710 _ _ ha7, e710 _ _ h07, e710 _ _ h17, hms, hml, by simp, by omega, by omega⟩, d01, da0, da1⟩
end
end TX
end
section
namespace TX
open PySem PySem.Spec PyProof.Rows L2 Evl W1 D1 MM LX
abbrev Ms (a l0 : Addr) : Addr → Prop := fun b => b = a ∨ b = l0
theorem FrM.new {M : Addr → Prop} {H H' : Hp} {d : Addr} {o : HO} (f : FrM M H H') (h : H d = none) : FrM M H (L2.upd H' d o) := fun b u e => by
  have : b ≠ d := fun z => by rw [z, h] at e; cases e
  rw [upd_ne this]
  exact f b u e
theorem StAt.updN {H : Hp} {a l0 l1 d : Addr} {n : Nat} {o : HO} (h : StAt H a l0 l1 n) (ha : a ≠ d) (h0 : l0 ≠ d) (h1 : l1 ≠ d) : StAt (L2.upd H d o) a l0 l1 n := by
  obtain ⟨ns, ms, t, e1, e2, e3, r⟩ := h.ex
  exact ⟨⟨ns, ms, t, by rw [upd_ne ha]; exact e1, by rw [upd_ne h0]; exact e2, by rw [upd_ne h1]; exact e3, r⟩, h.d01, h.da0, h.da1⟩
theorem StAt.ne {H : Hp} {a l0 l1 d : Addr} {n : Nat} (h : StAt H a l0 l1 n) (hd : H d = none) : a ≠ d ∧ l0 ≠ d ∧ l1 ≠ d := by
  obtain ⟨ns, ms, t, e1, e2, e3, r⟩ := h.ex
  exact ⟨ne_of_none e1 hd, ne_of_none e2 hd, ne_of_none e3 hd⟩
section
variable {X : Cx} {e s b c elt : Expr} {es : List Expr} {σ : L2.St} {H : Hp} {pos p p1 p2 : Pos} {x y : Str} {i : Int} {j k n : Nat} {Q : VK} {a l0 l1 : Addr} {many : Int} {scope : Scope} {own : List (Str × Nat)} {rest : List Stmt} {D : Ends}
theorem w_draw (G : Gf X.prog X.w X.K X.mg X.base 1 "_law_draw" P__law_draw S_draw) (hr : Room 1 X.A) (hg : Gl X "_law_draw") (hs : EvP X s σ H fun v _ => v = .ref a) (he : EvD X e σ H (.int many)) (hst : StAt H a l0 l1 n) (hn : n ≤ 1000000) (h0 : 0 < many) (h1 : many < 1000000)
    (q : ∀ r H', 0 ≤ r → r < many → FrM (Ms a l0) H H' → StAt H' a l0 l1 (n + 1) → Q (.int r) H') (hst1 : starEach [s, e] X.env = (false, eval s X.env) :: starEach [e] X.env := by rfl) (hst2 : starEach [e] X.env = (false, eval e X.env) :: starEach [] X.env := by rfl) (hpl : (backTo pos (starEach [e] X.env)).any (·.1) = false := by rfl) : WpX X (.Call (.Name "_law_draw" p) [s, e] [] pos) σ H Q := by
  refine w_call G hr hg passF (.of (pa_cons pp (pa_cons pp pa_nil hst2) hst1) ?_) (he := hst1) (hpl := hpl)
  show WpX _ _ _ _ _
  refine hs.go fun v H1 e1 hv => ?_
  show WpX _ _ _ _ _
  refine he.run H1 e1 _ fun u H2 e2 hu => ?_
  cases hu
  subst hv
  have e12 := e1.trans e2
  exact ⟨a, l0, l1, n, many, rfl, hst.ex' e12, hn, h0, h1, fun r H' r0 r1 f st => q r H' r0 r1 ((FrM.of e12).trans f) st⟩
theorem w_tup {j : Nat} (h : WaX X es σ H fun vs H1 => vs.length ≤ 100000 ∧ ∀ t, H1 t = none → Q (.ref t) (upd H1 t (.tup vs))) : WpX X (.Tuple es j pos) σ H Q :=
  .of (pe_tup aa) (show WaX X es σ H _ from fun pos pins s I => thn (h pos pins s I) fun us s' ⟨vs, H1, I1, r, hl, k⟩ => ⟨vs, H1, I1, r, szl hl, k⟩)
theorem w_lst (h : WaX X es σ H fun vs H1 => vs.length ≤ 100000 ∧ ∀ t, H1 t = none → Q (.ref t) (upd H1 t (.lst vs))) : WpX X (.List es pos) σ H Q :=
  .of (pe_lst aa) (show WaX X es σ H _ from fun pos pins s I => thn (h pos pins s I) fun us s' ⟨vs, H1, I1, r, hl, k⟩ => ⟨vs, H1, I1, r, szl hl, k⟩)
theorem wa_nil {Q : List V → Hp → Prop} (h : Q [] H) : WaX X [] σ H Q := .of pa_nil h
theorem wa_cons {Q : List V → Hp → Prop} (h : WpX X e σ H fun v H1 => WaX X es σ H1 fun vs H2 => Q (v :: vs) H2) (hs : starEach (e :: es) X.env = (false, eval e X.env) :: starEach es X.env := by rfl) : WaX X (e :: es) σ H Q := .of (pa_cons pp aa hs) h
theorem w_addI (ha : EvD X e σ H (.int i)) (hb : ∀ H1, Ex H H1 → WpX X b σ H1 fun y H2 => ∃ j, y = .int j ∧ Q (.int (i + j)) H2) : WpX X (.BinOp e .Add b pos) σ H Q :=
  .of (pe_op op_add pp pp) (ha.go fun v H1 e1 hv => (hb H1 e1).imp fun y H2 ⟨j, hy, q⟩ => ⟨i, j, dp_int hv, hy, q⟩)
theorem w_ixL (h : WpX X e σ H fun u H1 => WpX X b σ H1 fun y H2 => ∃ l xs i v, u = .ref l ∧ y = .int i ∧ H2 l = some (.lst xs) ∧ atI xs i = some v ∧ Q v H2) (hs : PlainIx b := by intro _ _; rfl) : WpX X (.Subscript e b pos) σ H Q :=
  .of (pe_ix ix_list pp pp hs) (h.imp fun u H1 h1 => h1.imp fun y H2 ⟨l, xs, i, v, hu, hy, hl, hi, q⟩ => ⟨l, xs, i, v, hu, hy, sq_of hl, hi, q⟩)
/-- x, y = a, b (two locals) -/
theorem bl_par {px py pt : Pos} {kt k2 : Nat} {pt2 : Pos} {z : Str} (i j : Nat) (hc : X.calm = true) (hN : X.N.Nodup) (hi : X.N[i]? = some x) (hj : X.N[j]? = some z) (hij : i ≠ j) (hx : X.env.scope.names.lookup x = some .local) (hy : X.env.scope.names.lookup z = some .local)
    (h : WaX X [b, c] σ H fun vs H1 => ∃ v w, vs = [v, w] ∧ BlX X rest ((σ.set i (some v)).set j (some w)) H1 D) (hw : swappedStores [.Tuple [.Name x px, .Name z py] kt pt] (.Tuple [b, c] k2 pt2) X.env = pure (some [x, z]) := by rfl)
    (hs : swapsWithSole [.Tuple [.Name x px, .Name z py] kt pt] (.Tuple [b, c] k2 pt2) pos.line X.env = pure false := by rfl) : BlX X (.Assign [.Tuple [.Name x px, .Name z py] kt pt] (.Tuple [b, c] k2 pt2) pos :: rest) σ H D :=
  bl_st (ps_par hc hN hi hj hij hx hy aa hw hs) h
/-- [e for y in range(n)] -/
theorem w_lcR {py : Pos} (hc : X.calm = true) (hN : X.N.Nodup) (hg : Gl X "range") (B : Bi X.mg) (ha : EvD X e σ H (.int (n : Nat))) (hn : n ≤ 1000) (ok : BlkOk X.N X.env.scope scope own) (hj : X.N[j]? = some y) (hy : scope.names.lookup y = some .local)
    (hw : ∀ v, wipe ((wipe σ (own.map (·.2))).set j (some v)) (own.map (·.2)) = wipe σ (own.map (·.2)))
    (Pv : Addr → Nat → Hp → Prop) (h0 : ∀ H1 d, Ex H H1 → H1 d = none → Pv d 0 (upd H1 d (.lst [])))
    (hs : Blk X scope fun X' => ∀ d i H', i < n → Pv d i H' → WpX X' elt ((wipe σ (own.map (·.2))).set j (some (.int (i : Nat)))) H' fun v H4 => ∃ acc, H4 d = some (.lst acc) ∧ acc.length < 100000 ∧ Pv d (i + 1) (upd H4 d (.lst (acc ++ [v]))))
    (hd : ∀ d H', Pv d n H' → Q (.ref d) H')
    (hst : starEach [e] X.env = [(false, eval e X.env)] := by rfl) (hfs : ∀ x, foldedSetIterable (.Call (.Name "range" p1) [e] [] p2) X.env x = pure x := by intro _; rfl) :
    WpX X (.ListComp elt [⟨.Name y py, .Call (.Name "range" p1) [e] [] p2, [], 0⟩] scope pos) σ H Q := by
  refine .of (pe_lc (own := own) (g := gName j) (tt := tYes) (te := fun σ' H' Q => Blk X scope fun X' => WpX X' elt σ' H' Q) hc hN (pi_range1 hg B.range aa hst) ok (fun _ _ _ _ _ => pg_name (i := j) hN hj (.inl (lookup_relabel_local hy)) (.inr (lookup_relabel_local hy))) (fun _ _ _ _ _ => pts_nil) (fun s H C cl fp => ⟨fun pins s' _ _ _ I h => h s H C cl fp pins s' I⟩) hfs) ?_
  show WaX _ _ _ _ _
  refine (a_cons ha a_nil (by rw [hst]; rfl) : EvA X [e] σ H [.int (n : Nat)]).run H (Ex.refl H) _ fun vs H1 e1 hvs => ?_
  obtain ⟨u, rfl, hu⟩ := dpa1 hvs
  cases hu
  refine ⟨_, rfl, by omega, by omega, fun d hd0 => ?_⟩
  rw [Int.toNat_natCast]
  refine lc_range (g := gName j) (tt := tYes) (te := fun σ' H' Q => Blk X scope fun X' => WpX X' elt σ' H' Q) (vs := own.map (·.2)) (σ := σ) (Pv d) (h0 H1 d e1 hd0) (fun i H' hi hp => ⟨hw _, ?_⟩) fun H' hp => hd d H' hp
  show Blk X scope fun X' => WpX X' elt _ H' _
  intro s0 H0 C0 cl0 fp0
  refine (show WpX _ elt ((wipe σ (own.map (·.2))).set j (some (.int (0 + (i : Nat))))) H' _ from ?_)
  rw [Int.zero_add]
  exact (hs s0 H0 C0 cl0 fp0 d i H' hi hp).imp fun v H4 ⟨acc, h1, h2, h3⟩ => ⟨acc, h1, Nat.lt_of_lt_of_le h2 (by rw [sizeLine_eq]; decide), h3⟩
end
section
variable {P : Program} {w : World} {K : PySem.W.Frag} {mg : Str → Option Value} {base : Heap}
/-- one of the items -/
def S_pick : Sp := fun vs H Q _ => ∃ a l0 l1 n il xs, vs = [.ref a, .ref il] ∧ StAt H a l0 l1 n ∧ n ≤ 1000000 ∧ H il = some (.lst xs) ∧ il ≠ a ∧ il ≠ l0 ∧ 0 < xs.length ∧ xs.length ≤ 1000 ∧ ∀ v H', v ∈ xs → FrM (Ms a l0) H H' → StAt H' a l0 l1 (n + 1) → Q v H'
theorem pick_ok (D : Df K mg "_law_pick" s__law_pick) (B : Bi mg) (G : Gf P w K mg base 1 "_law_draw" P__law_draw S_draw) : Gf P w K mg base 2 "_law_pick" P__law_pick S_pick := by
  refine D.gf 1 sc__law_pick (fun vs H Q E h => ?_) (fun _ _ _ _ _ _ us hl => match us, hl with | [_, _], _ => rfl) fun cdv A outer s H vs Q E hr h => ?_
  · obtain ⟨_, _, _, _, _, _, rfl, _⟩ := h
    rfl
  · obtain ⟨a, l0, l1, n, il, xs, rfl, hst, hn, hil, d1, d2, hl0, hl1, hQ⟩ := h
    have iv : ∀ H1 pos, EvP (cX P w K mg base N__law_pick "_law_pick" s__law_pick (He.ga K "_law_pick") cdv A outer s H E) (.Name "_law_items" pos) [some (.ref a), some (.ref il)] H1 (fun u _ => u = .ref il) := fun H1 pos => v_var 1 rfl (.inl rfl) rfl rfl rfl
    refine bl_ret (w_ixL ((iv _ _).go fun u H1 e1 hu => ?_))
    refine w_draw (many := (xs.length : Nat)) G hr (by rfl) (v_var 0 rfl (.inl rfl) rfl rfl rfl) ?_ (hst.ex' e1) hn (by omega) (by omega) fun r H2 r0 r1 f st => ?_
    · refine .of (pe_callB call_len_seq (by rfl) B.len boot_len (pa_cons pp pa_nil rfl) (by decide) (by decide) (by rfl) (by rfl)) fun H3 e3 Q3 q3 => ?_
      show WpX _ _ _ _ _
      refine (iv _ _).go fun y H4 e4 hy => ?_
      subst hy
      exact ⟨il, xs, rfl, .inl (sq_of ((e1.trans (e3.trans e4)) _ _ hil)), q3 _ H4 e4 (.int _)⟩
    · have hx : xs[r.toNat]? = some xs[r.toNat] := List.getElem?_eq_getElem (by omega)
      refine ⟨il, xs, r, _, hu, rfl, f.keep (e1 _ _ hil) (fun z => z.elim d1 d2), atI2 (n := r.toNat) (by omega) hx, hQ _ H2 (List.getElem_mem _) ((FrM.of e1).trans f) st⟩
end
end TX
end
section
namespace TX
open PySem PySem.Spec PyProof.Rows L2 Evl W1 D1 MM LX
section
variable {P : Program} {w : World} {K : PySem.W.Frag} {mg : Str → Option Value} {base : Heap}
def Bits (l : List Int) : Prop := ∀ x ∈ l, 1 ≤ x ∧ x ≤ 60
/-- a new list of lengths at d -/
structure LenAt (H0 : Hp) (a l0 l1 : Addr) (m : Nat) (d : Addr) (i : Nat) (H : Hp) : Prop where
  new : H0 d = none
  fr : FrM (Ms a l0) H0 H
  st : StAt H a l0 l1 m
  ex : ∃ xs : List Int, H d = some (.lst (xs.map .int)) ∧ xs.length = i ∧ Bits xs
theorem LenAt.start {H0 H1 : Hp} {a l0 l1 d : Addr} {m : Nat} (hst : StAt H0 a l0 l1 m) (e : Ex H0 H1) (hd : H1 d = none) : LenAt H0 a l0 l1 m d 0 (upd H1 d (.lst [])) := by
  have hd0 : H0 d = none := fresh_back e hd
  obtain ⟨n1, n2, n3⟩ := (hst.ex' e).ne hd
  exact ⟨hd0, (FrM.of e).new hd0, (hst.ex' e).updN n1 n2 n3, [], upd_same, rfl, fun x hx => nomatch hx⟩
theorem LenAt.push {H0 H1 H2 : Hp} {a l0 l1 d : Addr} {m m' i : Nat} {v : Int} {xs : List Int} (h0 : H0 d = none) (f : FrM (Ms a l0) H0 H2) (hst : StAt H2 a l0 l1 m') (hx : H2 d = some (.lst (xs.map .int))) (hl : xs.length = i) (hb : Bits xs) (hv : 1 ≤ v ∧ v ≤ 60) (hs0 : StAt H0 a l0 l1 m) : LenAt H0 a l0 l1 m' d (i + 1) (upd H2 d (.lst (xs.map V.int ++ [.int v]))) := by
  obtain ⟨n1, n2, n3⟩ := hs0.ne h0
  refine ⟨h0, f.new h0, hst.updN n1 n2 n3, xs ++ [v], ?_, by rw [List.length_append, hl]; rfl, fun x hx => ?_⟩
  · rw [upd_same, List.map_append]
    rfl
  · rcases List.mem_append.mp hx with z | z
    · exact hb x z
    · rw [List.mem_singleton.mp z]; exact hv
def S_rowd (K : PySem.W.Frag) : Sp := fun vs H Q _ => ∃ a l0 l1 n most, vs = [.ref a, .int most] ∧ StAt H a l0 l1 n ∧ n ≤ 900000 ∧ 1 ≤ most ∧ most ≤ 24 ∧ ∀ v H' r, RowOk r → Dp K H' v (rowD r) → FrM (Ms a l0) H H' → StAt H' a l0 l1 (n + 60) → Q v H'
theorem top_at {r : Int} (h0 : 0 ≤ r) (h1 : r < 6) : ∃ top : Int, atI ([PyData.int 3, .int 60, .int 9, .int 2, .int 12, .int 5]) r = some (.int top) ∧ 1 ≤ top ∧ top ≤ 60 := by
  have : r = 0 ∨ r = 1 ∨ r = 2 ∨ r = 3 ∨ r = 4 ∨ r = 5 := by omega
  rcases this with rfl | rfl | rfl | rfl | rfl | rfl
  · exact ⟨3, rfl, by decide, by decide⟩
  · exact ⟨60, rfl, by decide, by decide⟩
  · exact ⟨9, rfl, by decide, by decide⟩
  · exact ⟨2, rfl, by decide, by decide⟩
  · exact ⟨12, rfl, by decide, by decide⟩
  · exact ⟨5, rfl, by decide, by decide⟩
theorem row_drawn_ok (D : Df K mg "_law_row_drawn" s__law_row_drawn) (B : Bi mg) (G : Gf P w K mg base 1 "_law_draw" P__law_draw S_draw) : Gf P w K mg base 2 "_law_row_drawn" P__law_row_drawn (S_rowd K) := by
  refine D.gf 1 sc__law_row_drawn (fun vs H Q E h => ?_) (fun _ _ _ _ _ _ us hl => match us, hl with | [_, _], _ => rfl) fun cdv A outer s H vs Q E hr h => ?_
  · obtain ⟨_, _, _, _, _, rfl, _⟩ := h
    rfl
  · obtain ⟨a, l0, l1, n, most, rfl, hst, hn, hm0, hm1, hQ⟩ := h
    have S := sc__law_row_drawn
    refine bl_par 4 5 rfl S.nd rfl rfl (by decide) rfl rfl ?_
    refine wa_cons (w_addI d_int fun H1 e1 => w_draw G hr (by rfl) (v_var 0 rfl (by walk_at "vis") rfl rfl rfl) (x_var 1 rfl (by walk_at "vis") rfl (.int most) rfl rfl) (hst.ex' e1) (by omega) (by omega) (by omega) fun r H2 r0 r1 f2 st2 => ⟨r, rfl, ?_⟩)
    refine wa_cons (w_draw G hr (by rfl) (v_var 0 rfl (by walk_at "vis") rfl rfl rfl) d_int st2 (by omega) (by decide) (by decide) fun r2 H4 r20 r21 f3 stt => wa_nil ⟨_, _, rfl, ?_⟩)
    have ft : FrM (Ms a l0) H H4 := (FrM.of e1).trans (f2.trans f3)
    obtain ⟨top, htop, ht0, ht1⟩ := top_at r20 r21
    refine bl_set 2 S.nd rfl (.inr rfl) ((d_ixL (d_lst (a_cons d_int (a_cons d_int (a_cons d_int (a_cons d_int (a_cons d_int (a_cons d_int a_nil)))))) (by decide)) (x_var (d := .int r2) 5 rfl (by walk_at "vis") rfl (.int r2) rfl rfl) htop).go fun v H5 e5 hv => ?_)
    cases hv
    obtain ⟨nn, hnn⟩ : ∃ nn : Nat, (nn : Int) = 1 + r := ⟨(1 + r).toNat, by omega⟩
    have ft5 := ft.trans (FrM.of e5)
    have st5 := stt.ex' e5
    -- the end: tuple(found)
    have fin : ∀ d H' o6, LenAt H5 a l0 l1 (n + 60) d nn H' → BlX (cX P w K mg base N__law_row_drawn "_law_row_drawn" s__law_row_drawn (He.ga K "_law_row_drawn") cdv A outer s H E) ((defBody s__law_row_drawn).drop 5) [some (.ref a), some (.int most), some (.int top), some (.ref d), some (.int (1 + r)), some (.int r2), o6, none] H' { nx := fun _ H' => Q .non H', rt := Q } := fun d H' o6 L => by
      obtain ⟨xs, hx, hl, hb⟩ := L.ex
      have dx : Dp K H' (.ref d) (.list (xs.map .int)) := .lst (sq_of hx) (ints_dpa xs)
      refine bl_ret ((d_tupleL (by rfl) B.tuple (x_var 3 rfl (by walk_at "vis") rfl dx rfl rfl)).go fun v H6 e6 hv => ?_)
      exact hQ v H6 xs ⟨by omega, by omega, hb⟩ hv (ft5.trans (L.fr.trans (FrM.of e6))) (L.st.ex' e6)
    have step2 : ∀ d H' m, m ≤ n + 40 → LenAt H5 a l0 l1 m d nn H' → BlX (cX P w K mg base N__law_row_drawn "_law_row_drawn" s__law_row_drawn (He.ga K "_law_row_drawn") cdv A outer s H E) ((defBody s__law_row_drawn).drop 4) [some (.ref a), some (.int most), some (.int top), some (.ref d), some (.int (1 + r)), some (.int r2), none, none] H' { nx := fun _ H' => Q .non H', rt := Q } := fun d H' m hm L => by
      refine bl_when (k := r2 == 5) (b_eqI (x_var (d := .int r2) 5 rfl (by walk_at "vis") rfl (.int r2) rfl rfl) d_int) (fun _ H6 e6 => ?_) fun _ H6 e6 => ?_
      · have L6 : LenAt H5 a l0 l1 m d nn H6 := by
          obtain ⟨xs, hx, z⟩ := L.ex
          exact ⟨L.new, L.fr.trans (FrM.of e6), L.st.ex' e6, xs, e6 _ _ hx, z⟩
        refine bl_set 6 S.nd rfl (.inr rfl) (w_addI d_int fun H7 e7 => w_draw G hr (by rfl) (v_var 0 rfl (by walk_at "vis") rfl rfl rfl) (d_min2 rfl (by rfl) B (x_var (d := .int (1 + r)) 4 rfl (by walk_at "vis") rfl (.int (1 + r)) rfl rfl) d_int) (L6.st.ex' e7) (by omega) (by omega) (by omega) fun q H8 q0 q1 f8 st8 => ⟨q, rfl, ?_⟩)
        obtain ⟨xs, hx, hl, hb⟩ := L6.ex
        have hda : ¬ Ms a l0 d := fun z => by
          obtain ⟨k1, k2, _⟩ := st5.ne L6.new
          exact z.elim (fun z => k1 z.symm) fun z => k2 z.symm
        have hx8 := f8.keep (e7 _ _ hx) hda
        have f58 : FrM (Ms a l0) H5 H8 := L6.fr.trans ((FrM.of e7).trans f8)
        refine bl_set 3 S.nd rfl (.inr rfl) (w_lcR (n := nn) (own := [("_law_k", 7)]) (j := 7) rfl S.nd (by rfl) B (by rw [hnn]; exact x_var (d := .int (1 + r)) 4 rfl (by walk_at "vis") rfl (.int (1 + r)) rfl rfl) (by omega) (blkOk_by (N := N__law_row_drawn) (sc := defScope s__law_row_drawn) (by decide +kernel)) rfl rfl (fun _ => rfl)
          (fun d2 i H' => LenAt H8 a l0 l1 (m + 1) d2 i H') (fun H9 d2 e9 hd2 => LenAt.start st8 e9 hd2) ?_ (fun d2 H9 L9 => ?_))
        · intro s0 H0 C0 cl0 fp0 d2 i H' hi L'
          obtain ⟨ys, hy, hyl, hyb⟩ := L'.ex
          have hd2 : ¬ Ms a l0 d := hda
          have hx' : H' d = some (.lst (xs.map .int)) := L'.fr.keep hx8 hda
          have dx : Dp K H' (.ref d) (.list (xs.map .int)) := .lst (sq_of hx') (ints_dpa xs)
          have k0 := Int.emod_nonneg (i : Int) (b := 1 + q) (by omega)
          have k1 := Int.emod_lt_of_pos (i : Int) (b := 1 + q) (by omega)
          have hb2 : ((i : Int) % (1 + q)).toNat < xs.length := by omega
          have hix : atI (xs.map PyData.int) ((i : Int) % (1 + q)) = some (.int xs[((i : Int) % (1 + q)).toNat]) := by
            unfold atI
            rw [List.length_map, ixN_nat k0 (by omega)]
            show (xs.map PyData.int)[_]? = _
            rw [List.getElem?_map, List.getElem?_eq_getElem hb2]
            rfl
          refine (d_ixL (x_var 3 rfl (by walk_at "vis") rfl dx rfl rfl) (d_mod (x_var (d := .int (i : Nat)) 7 rfl (by walk_at "vis") rfl (.int _) rfl rfl) (x_var (d := .int (1 + q)) 6 rfl (by walk_at "vis") rfl (.int _) rfl rfl) (by omega)) hix).go fun v H10 e10 hv => ?_
          cases hv
          exact ⟨_, e10 _ _ hy, by rw [List.length_map]; omega, LenAt.push (H1 := H10) L'.new (L'.fr.trans (FrM.of e10)) (L'.st.ex' e10) (e10 _ _ hy) hyl hyb (hb _ (List.getElem_mem _)) st8⟩
        · have L9' : LenAt H5 a l0 l1 (n + 60) d2 nn H9 := by
            have hn5 : H5 d2 = none := by
              cases hh : H5 d2 with
              | none => rfl
              | some o =>
                rcases f58 d2 o hh with z | z
                · rw [L9.new] at z; cases z
                · obtain ⟨k1, k2, _⟩ := st8.ne L9.new
                  exact absurd z.1 (fun z => z.elim (fun z => k1 z.symm) fun z => k2 z.symm)
            exact ⟨hn5, f58.trans L9.fr, L9.st.mono (by omega), L9.ex⟩
          exact bl_nil (fin d2 H9 _ L9')
      · obtain ⟨xs, hx, z⟩ := L.ex
        exact fin d H6 _ ⟨L.new, L.fr.trans (FrM.of e6), (L.st.ex' e6).mono (by omega), xs, e6 _ _ hx, z⟩
    refine bl_set 3 S.nd rfl (.inr rfl) (w_lcR (n := nn) (own := [("_law_k", 7)]) (j := 7) rfl S.nd (by rfl) B (by rw [hnn]; exact x_var (d := .int (1 + r)) 4 rfl (by walk_at "vis") rfl (.int (1 + r)) rfl rfl) (by omega) (blkOk_by (N := N__law_row_drawn) (sc := defScope s__law_row_drawn) (by decide +kernel)) rfl rfl (fun _ => rfl)
      (fun d i H' => LenAt H5 a l0 l1 (n + 2 + i) d i H') (fun H9 d2 e9 hd2 => LenAt.start st5 e9 hd2) ?_ (fun d H6 L6 => ?_))
    · intro s0 H0 C0 cl0 fp0 d i H' hi L'
      obtain ⟨ys, hy, hyl, hyb⟩ := L'.ex
      have hda : ¬ Ms a l0 d := fun z => by
        obtain ⟨k1, k2, _⟩ := st5.ne L'.new
        exact z.elim (fun z => k1 z.symm) fun z => k2 z.symm
      refine w_addI d_int fun H7 e7 => w_draw G hr (by rfl) (v_var 0 rfl (by walk_at "vis") rfl rfl rfl) (x_var (d := .int top) 2 rfl (by walk_at "vis") rfl (.int top) rfl rfl) (L'.st.ex' e7) (by omega) (by omega) (by omega) fun q H8 q0 q1 f8 st8 => ⟨q, rfl, ?_⟩
      have hy8 := f8.keep (e7 _ _ hy) hda
      exact ⟨_, hy8, by rw [List.length_map]; omega, LenAt.push (H1 := H8) L'.new (L'.fr.trans ((FrM.of e7).trans f8)) st8 hy8 hyl hyb ⟨by omega, by omega⟩ st5⟩
    · have hk : n + 2 + nn ≤ n + 28 := by omega
      have hda : ¬ Ms a l0 d := fun z => by
        obtain ⟨k1, k2, _⟩ := st5.ne L6.new
        exact z.elim (fun z => k1 z.symm) fun z => k2 z.symm
      refine bl_when (k := (r2 == 2) || (r2 == 3)) (EvW.tob (w_or (b_eqI (x_var (d := .int r2) 5 rfl (by walk_at "vis") rfl (.int r2) rfl rfl) d_int) fun _ => w_or1 (b_eqI (x_var (d := .int r2) 5 rfl (by walk_at "vis") rfl (.int r2) rfl rfl) d_int))) (fun _ H7 e7 => ?_) fun _ H7 e7 => ?_
      · obtain ⟨xs, hx, hl, hb⟩ := L6.ex
        refine bl_setix (w_addI d_int fun H8 e8 => w_draw G hr (by rfl) (v_var 0 rfl (by walk_at "vis") rfl rfl rfl) d_int (L6.st.ex' (e7.trans e8)) (by omega) (by decide) (by decide) fun q H9 q0 q1 f9 st9 => ⟨q, rfl, (v_var (v := .ref d) 3 rfl (by walk_at "vis") rfl rfl rfl).go fun u H10 e10 hu => ?_⟩)
        refine w_draw G hr (by rfl) (v_var 0 rfl (by walk_at "vis") rfl rfl rfl) (x_var (d := .int (1 + r)) 4 rfl (by walk_at "vis") rfl (.int (1 + r)) rfl rfl) (st9.ex' e10) (by omega) (by omega) (by omega) fun y H11 y0 y1 f11 st11 => ?_
        have hx11 := f11.keep (e10 _ _ (f9.keep (e8 _ _ (e7 _ _ hx)) hda)) hda
        refine ⟨d, _, y, y.toNat, hu, rfl, hx11, ixN_nat y0 (by rw [List.length_map]; omega), ?_⟩
        have f611 : FrM (Ms a l0) H5 H11 := L6.fr.trans ((FrM.of (e7.trans e8)).trans (f9.trans ((FrM.of e10).trans f11)))
        obtain ⟨n1, n2, n3⟩ := st5.ne L6.new
        refine bl_nil (step2 d _ (n + 30) (by omega) ⟨L6.new, f611.new L6.new, (st11.updN n1 n2 n3).mono (by omega), xs.set y.toNat (1 + q), ?_, by rw [List.length_set]; exact hl, fun x hx => ?_⟩)
        · rw [upd_same, List.map_set]
        · rcases List.mem_or_eq_of_mem_set hx with z | z
          · exact hb x z
          · rw [z]; omega
      · obtain ⟨xs, hx, z⟩ := L6.ex
        exact step2 d H7 (n + 30) (by omega) ⟨L6.new, L6.fr.trans (FrM.of e7), (L6.st.ex' e7).mono (by omega), xs, e7 _ _ hx, z⟩
end
end TX
end
section
namespace TX
open PySem PySem.Spec PyProof.Rows L2 Evl W1 D1 MM LX
section
variable {X : Cx} {e b : Expr} {σ : L2.St} {H : Hp} {pos p : Pos} {i : Int} {Q : VK}
theorem w_max2 (hc : X.calm = true) (hg : Gl X "max") (B : Bi X.mg) (ha : EvD X e σ H (.int i)) (h : ∀ H1, Ex H H1 → WpX X b σ H1 fun v H2 => ∃ j, v = .int j ∧ Q (.int (max i j)) H2) (h1 : starEach [e, b] X.env = (false, eval e X.env) :: starEach [b] X.env := by rfl) (h2 : starEach [b] X.env = (false, eval b X.env) :: starEach [] X.env := by rfl) (hpl : (backTo pos (starEach [b] X.env)).any (·.1) = false := by rfl) : WpX X (.Call (.Name "max" p) [e, b] [] pos) σ H Q := by
  refine .of (pe_callB (call_max2 hc) hg B.max boot_max (pa_cons pp (pa_cons pp pa_nil h2) h1) (he := h1) (hpl := hpl)) ?_
  show WpX _ _ _ _ _
  refine ha.go fun u H1 e1 hu => ?_
  cases hu
  refine (h H1 e1).imp fun v H2 ⟨j, hv, q⟩ => ⟨i, j, by rw [hv], ?_⟩
  rw [show (if j > i then j else i) = max i j by split <;> omega]
  exact q
end
section
variable {P : Program} {w : World} {K : PySem.W.Frag} {mg : Str → Option Value} {base : Heap}
def S_widthd (K : PySem.W.Frag) : Sp := fun vs H Q _ => ∃ a l0 l1 n x r, vs = [.ref a, x] ∧ StAt H a l0 l1 n ∧ n ≤ 900000 ∧ Dp K H x (rowD r) ∧ RowOk r ∧ ∀ wd H', 1 ≤ wd → wd ≤ 2000 → FrM (Ms a l0) H H' → StAt H' a l0 l1 (n + 10) → Q (.int wd) H'
theorem width_drawn_ok (D : Df K mg "_law_width_drawn" s__law_width_drawn) (B : Bi mg) (G : Gf P w K mg base 1 "_law_draw" P__law_draw S_draw) : Gf P w K mg base 2 "_law_width_drawn" P__law_width_drawn (S_widthd K) := by
  refine D.gf 1 sc__law_width_drawn (fun vs H Q E h => ?_) (fun _ _ _ _ _ _ us hl => match us, hl with | [_, _], _ => rfl) fun cdv A outer s H vs Q E hr h => ?_
  · obtain ⟨_, _, _, _, _, _, rfl, _⟩ := h
    rfl
  · obtain ⟨a, l0, l1, n, x, r, rfl, hst, hn, hx, hrow, hQ⟩ := h
    have S := sc__law_width_drawn
    have hx : Dp K H x (.tuple (r.map .int)) := hx
    have hp := hrow.pos
    have hf := hrow.few
    have nx : noL (.tuple (r.map .int)) = true := noL_row r
    refine bl_set 2 S.nd rfl (.inl rfl) (w_draw G hr (by rfl) (v_var 0 rfl (.inl rfl) rfl rfl rfl) (d_lenT (by rfl) B.len (x_var 1 rfl (.inl rfl) rfl hx rfl rfl)) hst (by omega) (by rw [List.length_map]; omega) (by rw [List.length_map]; omega) fun fi H1 f0 f1 fr1 st1 => ?_)
    rw [List.length_map] at f1
    have hx1 := fr1.dp nx hx
    refine bl_set 3 S.nd rfl (.inl rfl) (w_addI (x_var (d := .int fi) 2 rfl (.inl rfl) rfl (.int fi) rfl rfl) fun H2 e2 => w_draw G hr (by rfl) (v_var 0 rfl (.inl rfl) rfl rfl rfl) (d_min2 rfl (by rfl) B (d_sub (d_lenT (by rfl) B.len (x_var 1 rfl (.inl rfl) rfl (dp_ex e2 hx1) rfl rfl)) (x_var (d := .int fi) 2 rfl (.inl rfl) rfl (.int fi) rfl rfl)) d_int) (st1.ex' e2) (by omega) (by rw [List.length_map]; omega) (by omega) fun q H3 q0 q1 fr3 st3 => ⟨q, rfl, ?_⟩)
    rw [List.length_map] at q1
    have F3 : FrM (Ms a l0) H H3 := fr1.trans ((FrM.of e2).trans fr3)
    have hx3 := F3.dp nx hx
    obtain ⟨s0, hs0⟩ : ∃ s0 : Nat, (s0 : Int) = fi := ⟨fi.toNat, by omega⟩
    obtain ⟨s1, hs1⟩ : ∃ s1 : Nat, (s1 : Int) = fi + q := ⟨(fi + q).toNat, by omega⟩
    have h01 : s0 ≤ s1 := by omega
    have h1l : s1 < r.length := by omega
    refine bl_set 4 S.nd rfl (.inl rfl) (EvP.go (Φ := fun v _ => v = .int (ext r s0 s1)) ⟨fun H4 e4 Q4 k4 => ?_⟩ fun v H4 e4 hv => ?_)
    · refine (EvD.is (d := .int ((((r.drop s0).take (s1 + 1 - s0)).sum + (fi + q)) - fi)) (d_sub (d_add (d_sumT rfl (by rfl) B.sum (EvD.is (d := .tuple (D1.cutD (r.map PyData.int) (some fi) (some ((fi + q) + 1)))) (d_slT (x_var 1 rfl (.inl rfl) rfl hx3 rfl rfl) (o_some (x_var (d := .int fi) 2 rfl (.inl rfl) rfl (.int fi) rfl rfl)) (o_some (d_add (x_var (d := .int (fi + q)) 3 rfl (.inl rfl) rfl (.int _) rfl rfl) d_int))) ?_)) (x_var (d := .int (fi + q)) 3 rfl (.inl rfl) rfl (.int _) rfl rfl)) (x_var (d := .int fi) 2 rfl (.inl rfl) rfl (.int fi) rfl rfl)) rfl).run H4 e4 Q4 fun v H5 e5 hv => k4 v H5 e5 ?_
      · rw [← hs1, ← hs0, show ((s1 : Int) + 1) = ((s1 + 1 : Nat) : Int) by omega, cut_row r s0 (s1 + 1) (by omega) (by omega)]
      · rw [dp_int hv, ← hs1, ← hs0]
        rfl
    subst hv
    have he := ext_le2 hrow s0 s1 h1l
    have he2 : ext r s0 s1 ≤ 1999 := by
      have h1 := sum_le ((r.drop s0).take (s1 + 1 - s0)) fun x hx => (hrow.all x (List.mem_of_mem_drop (List.mem_of_mem_take hx))).2
      have h2 : ((r.drop s0).take (s1 + 1 - s0)).length ≤ r.length := by rw [List.length_take, List.length_drop]; omega
      unfold ext
      omega
    generalize ext r s0 s1 = wd at he2 ⊢
    have hm := maxI_row hrow
    have hsum := sum_le r fun x hx => (hrow.all x hx).2
    have hx4 := dp_ex e4 hx3
    refine bl_set 5 S.nd rfl (.inl rfl) (w_lst (wa_cons ((d_maxT rfl (by rfl) B.max (x_var 1 rfl (.inl rfl) rfl hx4 rfl rfl) (by omega)).go fun v1 H5 e5 h5 => wa_cons ((x_var (d := .int wd) 4 rfl (.inl rfl) rfl (.int _) rfl rfl : EvD _ _ _ _ (.int wd)).go fun v2 H6 e6 h6 => wa_cons ((d_sub (x_var (d := .int wd) 4 rfl (.inl rfl) rfl (.int _) rfl rfl) d_int).go fun v3 H7 e7 h7 => wa_cons ((d_add (x_var (d := .int wd) 4 rfl (.inl rfl) rfl (.int _) rfl rfl) d_int).go fun v4 H8 e8 h8 => ?_))))))
    have e48 := e5.trans (e6.trans (e7.trans e8))
    refine wa_cons ((d_sub (d_add (d_sumT rfl (by rfl) B.sum (x_var 1 rfl (.inl rfl) rfl (dp_ex e48 hx4) rfl rfl)) (d_lenT (by rfl) B.len (x_var 1 rfl (.inl rfl) rfl (dp_ex e48 hx4) rfl rfl))) d_int).go fun v5 H9 e9 h9 => ?_)
    refine wa_cons (w_addI d_int fun H10 e10 => w_draw G hr (by rfl) (v_var 0 rfl (.inl rfl) rfl rfl rfl) d_int (st3.ex' (e4.trans (e48.trans (e9.trans e10)))) (by omega) (by decide) (by decide) fun y H11 y0 y1 fr11 st11 => ⟨y, rfl, ?_⟩)
    refine wa_cons ((d_int (i := 2000)).go fun v7 H12 e12 h12 => wa_nil ⟨by simp, fun d hd => ?_⟩)
    cases h5; cases h6; cases h7; cases h8; cases h9; cases h12
    have F12 : FrM (Ms a l0) H H12 := F3.trans ((FrM.of (e4.trans (e48.trans (e9.trans e10)))).trans (fr11.trans (FrM.of e12)))
    have st12 := st11.ex' e12
    obtain ⟨n1, n2, n3⟩ := st12.ne hd
    have st13 := st12.updN (d := d) (o := .lst [.int (D1.maxI r), .int wd, .int (wd - 1), .int (wd + 1), .int (r.sum + ((r.map PyData.int).length : Nat) - 1), .int (1 + y), .int 2000]) n1 n2 n3
    have F13 := F12.trans (FrM.of (Ex.new (o := .lst [.int (D1.maxI r), .int wd, .int (wd - 1), .int (wd + 1), .int (r.sum + ((r.map PyData.int).length : Nat) - 1), .int (1 + y), .int 2000]) hd))
    have hd13 : (upd H12 d (.lst [.int (D1.maxI r), .int wd, .int (wd - 1), .int (wd + 1), .int (r.sum + ((r.map PyData.int).length : Nat) - 1), .int (1 + y), .int 2000])) d = some (.lst [.int (D1.maxI r), .int wd, .int (wd - 1), .int (wd + 1), .int (r.sum + ((r.map PyData.int).length : Nat) - 1), .int (1 + y), .int 2000]) := upd_same
    generalize upd H12 d (.lst [.int (D1.maxI r), .int wd, .int (wd - 1), .int (wd + 1), .int (r.sum + ((r.map PyData.int).length : Nat) - 1), .int (1 + y), .int 2000]) = H13 at st13 F13 hd13 ⊢
    rw [List.length_map] at hd13
    refine bl_ret (w_max2 rfl (by rfl) B d_int fun H14 e14 => w_ixL ((v_var (v := .ref d) 5 rfl (.inl rfl) rfl rfl rfl).go fun u H15 e15 hu => ?_))
    have e1315 := e14.trans e15
    refine w_draw G hr (by rfl) (v_var 0 rfl (.inl rfl) rfl rfl rfl) d_int (st13.ex' e1315) (by omega) (by decide) (by decide) fun z H16 z0 z1 fr16 st16 => ?_
    have hd16 := fr16.keep (e1315 _ _ hd13) (fun k => k.elim (fun k => n1 k.symm) fun k => n2 k.symm)
    have key : ∀ c : Int, c ≤ 2000 → atI ([.int (D1.maxI r), .int wd, .int (wd - 1), .int (wd + 1), .int (r.sum + (r.length : Nat) - 1), .int (1 + y), .int 2000] : List V) z = some (.int c) → ∃ l xs i v, u = .ref l ∧ V.int z = .int i ∧ H16 l = some (.lst xs) ∧ atI xs i = some v ∧ ∃ j, v = .int j ∧ Q (.int (max 1 j)) H16 := fun c hc h => ⟨d, _, z, .int c, hu, rfl, hd16, h, c, rfl, hQ _ H16 (by omega) (by omega) (F13.trans ((FrM.of e1315).trans fr16)) (st16.mono (by omega))⟩
    have hz : z = 0 ∨ z = 1 ∨ z = 2 ∨ z = 3 ∨ z = 4 ∨ z = 5 ∨ z = 6 := by omega
    have hm2 : D1.maxI r ≤ 60 := hm.2
    rcases hz with rfl | rfl | rfl | rfl | rfl | rfl | rfl
    · exact key _ (by omega) rfl
    · exact key _ (by omega) rfl
    · exact key _ (by omega) rfl
    · exact key _ (by omega) rfl
    · exact key _ (by omega) rfl
    · exact key _ (by omega) rfl
    · exact key _ (by omega) rfl
end
end TX
end
section
namespace TX
open PySem PySem.Spec PyProof.Rows L2 Evl W1 D1 MM LX
section
variable {X : Cx} {e s b : Expr} {es : List Expr} {σ : L2.St} {H : Hp} {pos p : Pos} {Q : VK} {a l0 l1 : Addr} {n : Nat}
theorem w_pick (G : Gf X.prog X.w X.K X.mg X.base 2 "_law_pick" P__law_pick S_pick) (hr : Room 2 X.A) (hg : Gl X "_law_pick") (hs : EvP X s σ H fun v _ => v = .ref a) (hn : n ≤ 1000000)
    (h : ∀ H1, Ex H H1 → WpX X e σ H1 fun u H2 => ∃ il xs, u = .ref il ∧ H2 il = some (.lst xs) ∧ il ≠ a ∧ il ≠ l0 ∧ StAt H2 a l0 l1 n ∧ 0 < xs.length ∧ xs.length ≤ 1000 ∧ ∀ v H', v ∈ xs → FrM (Ms a l0) H2 H' → StAt H' a l0 l1 (n + 1) → Q v H')
    (hst1 : starEach [s, e] X.env = (false, eval s X.env) :: starEach [e] X.env := by rfl) (hst2 : starEach [e] X.env = (false, eval e X.env) :: starEach [] X.env := by rfl) (hpl : (backTo pos (starEach [e] X.env)).any (·.1) = false := by rfl) : WpX X (.Call (.Name "_law_pick" p) [s, e] [] pos) σ H Q := by
  refine w_call G hr hg passF (wa_cons (hs.go fun v H1 e1 hv => wa_cons ((h H1 e1).imp fun u H2 ⟨il, xs, hu, hx, d1, d2, st, l1, l2, k⟩ => wa_nil ?_) hst2) hst1) (he := hst1) (hpl := hpl)
  subst hv hu
  exact ⟨a, l0, _, n, il, xs, rfl, st, hn, hx, d1, d2, l1, l2, k⟩
end
section
variable {P : Program} {w : World} {K : PySem.W.Frag} {mg : Str → Option Value} {base : Heap}
def S_edit (K : PySem.W.Frag) : Sp := fun vs H Q _ => ∃ a l0 l1 n x r, vs = [.ref a, x] ∧ StAt H a l0 l1 n ∧ n ≤ 900000 ∧ Dp K H x (rowD r) ∧ RowOk r ∧ ∀ v H' e, e.fit → Dp K H' v (edD e) → FrM (Ms a l0) H H' → StAt H' a l0 l1 (n + 10) → Q v H'
theorem edit_ok (D : Df K mg "_law_edit" s__law_edit) (B : Bi mg) (G : Gf P w K mg base 1 "_law_draw" P__law_draw S_draw) (Gp : Gf P w K mg base 2 "_law_pick" P__law_pick S_pick) : Gf P w K mg base 3 "_law_edit" P__law_edit (S_edit K) := by
  refine D.gf 2 sc__law_edit (fun vs H Q E h => ?_) (fun _ _ _ _ _ _ us hl => match us, hl with | [_, _], _ => rfl) fun cdv A outer s H vs Q E hr h => ?_
  · obtain ⟨_, _, _, _, _, _, rfl, _⟩ := h
    rfl
  · obtain ⟨a, l0, l1, n, x, r, rfl, hst, hn, hx, hrow, hQ⟩ := h
    have S := sc__law_edit
    have hx : Dp K H x (.tuple (r.map .int)) := hx
    have hp := hrow.pos
    have hf := hrow.few
    have nx : noL (.tuple (r.map .int)) = true := noL_row r
    have hr1 := hr.mono (show 1 ≤ 2 by decide)
    refine bl_par 4 2 rfl S.nd rfl rfl (by decide) rfl rfl ?_
    refine wa_cons (w_pick (a := a) (l0 := l0) (l1 := l1) Gp hr (by rfl) (v_var 0 rfl (.inl rfl) rfl rfl rfl) (n := n) (by omega) fun H1 e1 => (n_lst (ds := [.str "put", .str "put", .str "cut", .str "resize", .str "turn"]) (by walk_at "ea") (by decide)).go fun u H2 e2 ⟨il, xs, hu, hn0, hx2, hd2⟩ => ?_)
    have e12 := e1.trans e2
    have hxs : xs = ([.str "put", .str "put", .str "cut", .str "resize", .str "turn"] : List V) := dpa_strs (ns := ["put", "put", "cut", "resize", "turn"]) hd2
    subst hxs
    obtain ⟨n1, n2, n3⟩ := (hst.ex' e1).ne hn0
    refine ⟨il, _, hu, hx2, Ne.symm n1, Ne.symm n2, hst.ex' e12, by decide, by decide, fun nm H3 hv f3 st3 => ?_⟩
    refine wa_cons (w_addI d_int fun H4 e4 => w_draw G hr1 (by rfl) (v_var 0 rfl (.inl rfl) rfl rfl rfl) d_int (st3.ex' e4) (by omega) (by decide) (by decide) fun q H5 q0 q1 f5 st5 => ⟨q, rfl, wa_nil ⟨_, _, rfl, ?_⟩⟩)
    have F5 : FrM (Ms a l0) H H5 := (FrM.of e12).trans (f3.trans ((FrM.of e4).trans f5))
    refine bl_set 2 S.nd rfl (.inl rfl) (w_ixL (w_lst (wa_cons ((x_var (d := .int (1 + q)) 2 rfl (.inl rfl) rfl (.int _) rfl rfl : EvD _ _ _ _ (.int (1 + q))).go fun v1 H6 e6 h6 => wa_cons ((d_add d_int (d_mod (x_var (d := .int (1 + q)) 2 rfl (.inl rfl) rfl (.int _) rfl rfl) d_int (by decide))).go fun v2 H7 e7 h7 => wa_nil ⟨by simp, fun d hd => ?_⟩)))))
    cases h6; cases h7
    have st7 := st5.ex' (e6.trans e7)
    obtain ⟨m1, m2, m3⟩ := st7.ne hd
    have st8 := st7.ex' (Ex.new (o := .lst [.int (1 + q), .int (1 + (1 + q) % 12)]) hd)
    have F8 : FrM (Ms a l0) H (upd H7 d (.lst [.int (1 + q), .int (1 + (1 + q) % 12)])) := F5.trans ((FrM.of (e6.trans e7)).trans (FrM.of (Ex.new hd)))
    have hd8 : (upd H7 d (.lst [.int (1 + q), .int (1 + (1 + q) % 12)])) d = some (.lst [.int (1 + q), .int (1 + (1 + q) % 12)]) := upd_same
    generalize upd H7 d (.lst [.int (1 + q), .int (1 + (1 + q) % 12)]) = H8 at st8 F8 hd8 ⊢
    refine w_draw G hr1 (by rfl) (v_var 0 rfl (.inl rfl) rfl rfl rfl) d_int st8 (by omega) (by decide) (by decide) fun z H9 z0 z1 f9 st9 => ?_
    have hd9 := f9.keep hd8 (fun k => k.elim (fun k => m1 k.symm) fun k => m2 k.symm)
    have F9 := F8.trans f9
    obtain ⟨L, hL, hL0⟩ : ∃ L : Int, atI ([.int (1 + q), .int (1 + (1 + q) % 12)] : List V) z = some (.int L) ∧ 1 ≤ L ∧ L ≤ 60 := by
      have : z = 0 ∨ z = 1 := by omega
      rcases this with rfl | rfl
      · exact ⟨1 + q, rfl, by omega, by omega⟩
      · exact ⟨1 + (1 + q) % 12, rfl, by omega, by omega⟩
    refine ⟨d, _, z, .int L, rfl, rfl, hd9, hL, ?_⟩
    have hx9 := F9.dp nx hx
    obtain ⟨nm', rfl, hnm⟩ : ∃ nm' : Str, nm = .str nm' ∧ nm' ∈ (["put", "cut", "resize", "turn"] : List Str) := by
      simp only [List.mem_cons, List.not_mem_nil, or_false] at hv
      rcases hv with rfl | rfl | rfl | rfl | rfl
      · exact ⟨_, rfl, by simp⟩
      · exact ⟨_, rfl, by simp⟩
      · exact ⟨_, rfl, by simp⟩
      · exact ⟨_, rfl, by simp⟩
      · exact ⟨_, rfl, by simp⟩
    refine bl_when (k := nm' == "put") (b_eqS (x_var (d := .str nm') 4 rfl (.inl rfl) rfl (.str _) rfl rfl) d_str) (fun hk H10 e10 => ?_) fun hk H10 e10 => ?_
    · obtain rfl : nm' = "put" := eq_of_beq hk
      refine bl_ret (w_tup (wa_cons ((x_var (d := .str "put") 4 rfl (.inl rfl) rfl (.str _) rfl rfl : EvD _ _ _ _ (.str "put")).go fun v1 H11 e11 h11 => wa_cons (w_draw G hr1 (by rfl) (v_var 0 rfl (.inl rfl) rfl rfl rfl) (d_add (d_lenT (by rfl) B.len (x_var 1 rfl (.inl rfl) rfl (dp_ex (e10.trans e11) hx9) rfl rfl)) d_int) (st9.ex' (e10.trans e11)) (by omega) (by rw [List.length_map]; omega) (by rw [List.length_map]; omega) fun pl H12 p0 p1 f12 st12 => wa_cons ((x_var (d := .int L) 2 rfl (.inl rfl) rfl (.int _) rfl rfl : EvD _ _ _ _ (.int L)).go fun v3 H13 e13 h13 => wa_nil ⟨by simp, fun t ht => ?_⟩)))))
      cases h11; cases h13
      rw [List.length_map] at p1
      have e14 : Ex H13 (upd H13 t (.tup [.str "put", .int pl, .int L])) := Ex.new ht
      exact hQ _ _ (.put pl L) ⟨⟨by omega, by omega⟩, hL0⟩ (.tup (st_of upd_same) (.cons (.str _) (.cons (.int _) (.cons (.int _) .nil)))) (F9.trans ((FrM.of (e10.trans e11)).trans (f12.trans (FrM.of (e13.trans e14))))) ((st12.ex' (e13.trans e14)).mono (by omega))
    refine bl_when (k := nm' == "turn") (b_eqS (x_var (d := .str nm') 4 rfl (.inl rfl) rfl (.str _) rfl rfl) d_str) (fun hk2 H11 e11 => ?_) fun hk2 H11 e11 => ?_
    · obtain rfl : nm' = "turn" := eq_of_beq hk2
      refine bl_ret ((d_tup (ds := [.str "turn"]) (a_cons (x_var (d := .str "turn") 4 rfl (.inl rfl) rfl (.str _) rfl rfl) a_nil) (by simp)).go fun v H12 e12 hv => ?_)
      have e912 := e10.trans (e11.trans e12)
      exact hQ v H12 .turn trivial hv (F9.trans (FrM.of e912)) ((st9.ex' e912).mono (by omega))
    have e911 := e10.trans e11
    refine bl_set 3 S.nd rfl (.inl rfl) (w_draw G hr1 (by rfl) (v_var 0 rfl (.inl rfl) rfl rfl rfl) (d_lenT (by rfl) B.len (x_var 1 rfl (.inl rfl) rfl (dp_ex e911 hx9) rfl rfl)) (st9.ex' e911) (by omega) (by rw [List.length_map]; omega) (by rw [List.length_map]; omega) fun pl H12 p0 p1 f12 st12 => ?_)
    rw [List.length_map] at p1
    have F12 := F9.trans ((FrM.of e911).trans f12)
    refine bl_ret (.of (pe_ifExp tt pp pp) ?_)
    show WtX _ _ _ _ _
    refine EvB.go (b := nm' == "resize") (b_eqS (x_var (d := .str nm') 4 rfl (.inl rfl) rfl (.str _) rfl rfl) d_str) fun H13 e13 => ?_
    cases hres : nm' == "resize" with
    | true =>
      obtain rfl : nm' = "resize" := eq_of_beq hres
      show WpX _ _ _ _ _
      refine (d_tup (ds := [.str "resize", .int pl, .int L]) (a_cons (x_var (d := .str "resize") 4 rfl (.inl rfl) rfl (.str _) rfl rfl) (a_cons (x_var (d := .int pl) 3 rfl (.inl rfl) rfl (.int _) rfl rfl) (a_cons (x_var (d := .int L) 2 rfl (.inl rfl) rfl (.int _) rfl rfl) a_nil))) (by simp)).go fun v H14 e14 hv => ?_
      exact hQ v H14 (.resize pl L) ⟨⟨by omega, by omega⟩, hL0⟩ hv (F12.trans (FrM.of (e13.trans e14))) ((st12.ex' (e13.trans e14)).mono (by omega))
    | false =>
      obtain rfl : nm' = "cut" := by
        simp only [List.mem_cons, List.not_mem_nil, or_false] at hnm
        rcases hnm with rfl | rfl | rfl | rfl
        · exact absurd hk (by decide)
        · rfl
        · exact absurd hres (by decide)
        · exact absurd hk2 (by decide)
      show WpX _ _ _ _ _
      refine (d_tup (ds := [.str "cut", .int pl]) (a_cons (x_var (d := .str "cut") 4 rfl (.inl rfl) rfl (.str _) rfl rfl) (a_cons (x_var (d := .int pl) 3 rfl (.inl rfl) rfl (.int _) rfl rfl) a_nil)) (by simp)).go fun v H14 e14 hv => ?_
      exact hQ v H14 (.cut pl) ⟨by omega, by omega⟩ hv (F12.trans (FrM.of (e13.trans e14))) ((st12.ex' (e13.trans e14)).mono (by omega))
end
end TX
end
section
namespace TX
open PySem PySem.Spec PyProof.Rows L2 Evl W1 D1 MM LX
section
variable {X : Cx} {e b : Expr} {es : List Expr} {σ : L2.St} {H : Hp} {pos p : Pos} {Q : VK} {C : Addr} {kd : PKind} {r : List Int} {x : Str} {k : Nat} {i : Int} {ns : List Int} {pg : Addr}
theorem b_inI (he : EvD X e σ H (.int i)) (hb : EvD X b σ H (.tuple (ns.map .int))) (hm : behindInMarks .In b = false := by rfl) : EvB X (.Compare e [.In] [b] pos) σ H (ns.any fun j => j == i) :=
  .of (pt_cmpR op_in_seq pp pp hm) fun H1 e1 Q q => he.run H1 e1 _ fun v H2 e2 hv => hb.run H2 (e1.trans e2) _ fun u H3 e3 hu => by
    cases hv
    obtain ⟨t, xs, rfl, ht, hxs⟩ := dp_tup hu
    rw [dpa_ints hxs] at ht
    refine ⟨t, ns.map V.int, rfl, .inr ht, rfl, by rw [List.all_map, List.all_eq_true]; intro _ _; rfl, _, ?_, q H3 (e2.trans e3)⟩
    have z : inV (.int i) (ns.map V.int) = ns.any fun j => j == i := by
      unfold inV
      rw [List.any_map]
      rfl
    rw [z]
    rfl
/-- the class x of pages, to be made -/
structure Mkp (P : Program) (w : World) (K : PySem.W.Frag) (mg : Str → Option Value) (base : Heap) (k : Nat) (x : Str) (C : Addr) (kd : PKind) : Prop where
  m : mg x = some (.ref C)
  ex : ∃ f ps, Mk K C f ∧ Ff P w K mg base k f ps (S_make K C kd)
theorem made_ex {H H' : Hp} {x dx : Addr} {u v : HO} (hx : H x = none) (hd : H dx = none) (f : FrI (· = x) (upd (upd H dx u) x v) H') : Ex H H' := fun b o e => by
  have n1 : b ≠ x := ne_of_none e hx
  have n2 : b ≠ dx := ne_of_none e hd
  exact (f b o (by rw [upd_ne n1, upd_ne n2]; exact e)).elim id fun z => absurd z.1 n1
theorem w_makeP (M : Mkp X.prog X.w X.K X.mg X.base k x C kd) (hr : Room (k + 1) X.A) (hg : Gl X x) (he : EvD X e σ H (rowD r)) (hrow : RowOk r) (hf : fitsK kd r) (q : ∀ p H', Ex H H' → H p = none → PgAt X.K H' p C kd (Pg.new r) → Q (.ref p) H') (hdb : (x == ("__debug__" : Str)) = false := by decide)
    (hst : starEach [e] X.env = (false, eval e X.env) :: starEach [] X.env := by rfl) (hpl : (backTo pos (starEach [] X.env)).any (·.1) = false := by rfl) : WpX X (.Call (.Name x p) [e] [] pos) σ H Q := by
  obtain ⟨f, ps, hM, F⟩ := M.ex
  obtain ⟨fd, F, B⟩ := F.ex
  refine .of (pe_make hM F hr hg M.m B .nil passF (pa_cons pp pa_nil hst) hdb hst hpl) ?_
  show WpX _ _ _ _ _
  refine he.go fun v H1 e1 hv p dx hp hd hne => ?_
  refine ⟨p, v, dx, r, rfl, upd_same, ?_, hrow, hf, fun H' f hp' => ⟨rfl, q p H' (e1.trans (made_ex hp hd f)) (fresh_back e1 hp) hp'⟩⟩
  have hn : upd H1 dx (.own p) p = none := by rw [upd_ne (Ne.symm hne)]; exact hp
  exact dp_ex (Ex.new hn) (dp_ex (Ex.new hd) hv)
/-- the class of consoles, to be made -/
structure Mkc (P : Program) (w : World) (K : PySem.W.Frag) (mg : Str → Option Value) (base : Heap) (Cc : Addr) : Prop where
  m : mg "Console" = some (.ref Cc)
  ex : ∃ f ps, Mk K Cc f ∧ Ff P w K mg base 1 f ps (S_coinit K Cc)
theorem w_makeC {Cc : Addr} (M : Mkc X.prog X.w X.K X.mg X.base Cc) (hr : Room 2 X.A) (hg : Gl X "Console") (he : EvP X e σ H fun v _ => v = .ref pg) (q : ∀ c l H', Ex H H' → H c = none → H l = none → c ≠ l → CoAt X.K H' c Cc pg l → Q (.ref c) H')
    (hst : starEach [e] X.env = (false, eval e X.env) :: starEach [] X.env := by rfl) (hpl : (backTo pos (starEach [] X.env)).any (·.1) = false := by rfl) : WpX X (.Call (.Name "Console" p) [e] [] pos) σ H Q := by
  obtain ⟨f, ps, hM, F⟩ := M.ex
  obtain ⟨fd, F, B⟩ := F.ex
  refine .of (pe_make hM F hr hg M.m B .nil passF (pa_cons pp pa_nil hst) (by decide) hst hpl) ?_
  show WpX _ _ _ _ _
  refine he.go fun v H1 e1 hv p dx hp hd hne => ?_
  subst hv
  refine ⟨p, pg, dx, rfl, upd_same, fun H' l f hl hco => ⟨rfl, ?_⟩⟩
  have hlp : l ≠ p := fun z => by rw [z, upd_same] at hl; cases hl
  have hld : l ≠ dx := fun z => by rw [z, upd_ne hne, upd_same] at hl; cases hl
  rw [upd_ne hlp, upd_ne hld] at hl
  exact q p l H' (e1.trans (made_ex hp hd f)) (fresh_back e1 hp) (fresh_back e1 hl) (Ne.symm hlp) hco
end
def kdOf : Int → PKind := fun i => ⟨decide (i = 1 ∨ i = 3), decide (2 ≤ i)⟩
def cnOf : Int → Str := fun i => if i = 0 then "Page" else if i = 1 then "NarrowPage" else if i = 2 then "LoggedPage" else "LoggedNarrowPage"
section
variable {P : Program} {w : World} {K : PySem.W.Frag} {mg : Str → Option Value} {base : Heap}
abbrev clOf (K : PySem.W.Frag) (i : Int) : Addr := He.ga K (cnOf i)
def gMod12 : PyData → PyData
  | .int x => .int (1 + (x - 1) % 12)
  | _ => .none
def S_start (K : PySem.W.Frag) : Sp := fun vs H Q _ => ∃ a l0 l1 n ki, vs = [.ref a, .int ki, .int 16] ∧ StAt H a l0 l1 n ∧ n ≤ 800000 ∧ 0 ≤ ki ∧ ki < 4 ∧ ∀ v H' r, RowOk r → fitsK (kdOf ki) r → Dp K H' v (rowD r) → FrM (Ms a l0) H H' → StAt H' a l0 l1 (n + 60) → Q v H'
theorem start_ok (D : Df K mg "_law_start" s__law_start) (B : Bi mg) (G : Gf P w K mg base 2 "_law_row_drawn" P__law_row_drawn (S_rowd K)) : Gf P w K mg base 3 "_law_start" P__law_start (S_start K) := by
  refine D.gf 2 sc__law_start (fun vs H Q E h => ?_) (fun _ _ _ _ _ _ us hl => match us, hl with | [_, _, _], _ => rfl) fun cdv A outer s H vs Q E hr h => ?_
  · obtain ⟨_, _, _, _, _, rfl, _⟩ := h
    rfl
  · obtain ⟨a, l0, l1, n, ki, rfl, hst, hn, k0, k1, hQ⟩ := h
    have S := sc__law_start
    refine bl_set 3 S.nd rfl (.inl rfl) (w_call G hr (by rfl) passF (wa_cons ((v_var (v := .ref a) 0 rfl (.inl rfl) rfl rfl rfl).go fun v1 H1 e1 h1 => wa_cons ((v_var (v := .int 16) 2 rfl (.inl rfl) rfl rfl rfl).go fun v2 H2 e2 h2 => wa_nil ?_))))
    subst h1 h2
    have e12 := e1.trans e2
    refine ⟨a, l0, l1, n, 16, rfl, hst.ex' e12, by omega, by decide, by decide, fun v H3 r hrow hv f3 st3 => ?_⟩
    have F3 := (FrM.of e12).trans f3
    have hf := hrow.few
    refine bl_ret (.of (pe_ifExp tt pp pp) ?_)
    show WtX _ _ _ _ _
    refine EvB.go (b := ([0, 2] : List Int).any fun j => j == ki) (b_inI (ns := [0, 2]) (x_var (d := .int ki) 1 rfl (.inl rfl) rfl (.int _) rfl rfl) (d_tup (by walk_at "ea") (by simp))) fun H4 e4 => ?_
    have hv4 := dp_ex e4 hv
    cases hk : ([0, 2] : List Int).any fun j => j == ki with
    | true =>
      have hkk : ki = 0 ∨ ki = 2 := by
        simp only [List.any_cons, List.any_nil, Bool.or_false, Bool.or_eq_true, beq_iff_eq] at hk
        omega
      show WpX _ _ _ _ _
      refine (x_var (d := rowD r) 3 rfl (.inl rfl) rfl hv4 rfl rfl : EvD _ _ _ _ (rowD r)).go fun u H5 e5 hu => ?_
      refine hQ u H5 r hrow (fun z => ?_) hu (F3.trans (FrM.of (e4.trans e5))) (st3.ex' (e4.trans e5))
      simp only [kdOf, decide_eq_true_eq] at z
      omega
    | false =>
      show WpX _ _ _ _ _
      have hv5 : Dp K H4 v (.tuple (r.map .int)) := hv4
      refine (d_tupleL (by rfl) B.tuple (EvN.toD (n_lcT (own := [("_law_length", 4)]) (j := 4) gMod12 rfl S.nd (x_var 3 rfl (.inl rfl) rfl hv5 rfl rfl) (blkOk_by (N := N__law_start) (sc := defScope s__law_start) (by decide +kernel)) rfl rfl (fun _ => rfl) (by rw [List.length_map]; omega) (fun d hd => ?_) ?_))).go fun u H5 e5 hu => ?_
      · obtain ⟨i, _, rfl⟩ := List.mem_map.mp hd
        rfl
      · intro s0 H0 C0 cl0 fp0 d u H6 e6 hdm hu
        obtain ⟨i, hi, rfl⟩ := List.mem_map.mp hdm
        exact d_add d_int (d_mod (d_sub (x_var 4 rfl (by walk_at "vis") rfl hu rfl rfl) d_int) d_int (by decide))
      · have hmap : (r.map PyData.int).map gMod12 = (r.map fun x => 1 + (x - 1) % 12).map .int := by
          rw [List.map_map, List.map_map]
          rfl
        rw [hmap] at hu
        have hb : ∀ y ∈ r.map (fun x => 1 + (x - 1) % 12), 1 ≤ y ∧ y ≤ 12 := fun y hy => by
          obtain ⟨x, _, rfl⟩ := List.mem_map.mp hy
          omega
        refine hQ u H5 (r.map fun x => 1 + (x - 1) % 12) ⟨by rw [List.length_map]; exact hrow.pos, by rw [List.length_map]; exact hf, fun y hy => ?_⟩ (fun _ y hy => (hb y hy).2) hu (F3.trans (FrM.of (e4.trans e5))) (st3.ex' (e4.trans e5))
        have := hb y hy
        omega
/-- all four classes can be made -/
def S_made (K : PySem.W.Frag) : Sp := fun vs H Q _ => ∃ ki x r, vs = [.int ki, x] ∧ 0 ≤ ki ∧ ki < 4 ∧ Dp K H x (rowD r) ∧ RowOk r ∧ fitsK (kdOf ki) r ∧ ∀ p H', Ex H H' → H p = none → PgAt K H' p (clOf K ki) (kdOf ki) (Pg.new r) → Q (.ref p) H'
theorem made_ok (D : Df K mg "_law_made" s__law_made) (M : ∀ ki, 0 ≤ ki → ki < 4 → Mkp P w K mg base 5 (cnOf ki) (clOf K ki) (kdOf ki)) : Gf P w K mg base 7 "_law_made" P__law_made (S_made K) := by
  refine D.gf 6 sc__law_made (fun vs H Q E h => ?_) (fun _ _ _ _ _ _ us hl => match us, hl with | [_, _], _ => rfl) fun cdv A outer s H vs Q E hr h => ?_
  · obtain ⟨_, _, _, rfl, _⟩ := h
    rfl
  · obtain ⟨ki, x, r, rfl, k0, k1, hx, hrow, hf, hQ⟩ := h
    have kv : ∀ H1 pos, EvD (cX P w K mg base N__law_made "_law_made" s__law_made (He.ga K "_law_made") cdv A outer s H E) (.Name "_law_kind" pos) [some (.int ki), some x] H1 (.int ki) := fun H1 pos => x_var 0 rfl (.inl rfl) rfl (.int _) rfl rfl
    refine bl_when (k := ki == 0) (b_eqI (kv _ _) d_int) (fun hk H1 e1 => ?_) fun hk1 H1 e1 => ?_
    · obtain rfl : ki = 0 := eq_of_beq hk
      exact bl_ret (w_makeP (M 0 (by decide) (by decide)) hr (by rfl) (x_var (d := rowD r) 1 rfl (.inl rfl) rfl (dp_ex e1 hx) rfl rfl) hrow hf fun p H' e hp hpg => hQ p H' (e1.trans e) (fresh_back e1 hp) hpg)
    refine bl_when (k := ki == 1) (b_eqI (kv _ _) d_int) (fun hk H2 e2 => ?_) fun hk2 H2 e2 => ?_
    · obtain rfl : ki = 1 := eq_of_beq hk
      have e12 := e1.trans e2
      exact bl_ret (w_makeP (M 1 (by decide) (by decide)) hr (by rfl) (x_var (d := rowD r) 1 rfl (.inl rfl) rfl (dp_ex e12 hx) rfl rfl) hrow hf fun p H' e hp hpg => hQ p H' (e12.trans e) (fresh_back e12 hp) hpg)
    refine bl_ret (.of (pe_ifExp tt pp pp) ?_)
    show WtX _ _ _ _ _
    refine EvB.go (b := ki == 2) (b_eqI (kv _ _) d_int) fun H3 e3 => ?_
    have e13 := e1.trans (e2.trans e3)
    cases hk3 : ki == 2 with
    | true =>
      obtain rfl : ki = 2 := eq_of_beq hk3
      show WpX _ _ _ _ _
      exact w_makeP (M 2 (by decide) (by decide)) hr (by rfl) (x_var (d := rowD r) 1 rfl (.inl rfl) rfl (dp_ex e13 hx) rfl rfl) hrow hf fun p H' e hp hpg => hQ p H' (e13.trans e) (fresh_back e13 hp) hpg
    | false =>
      obtain rfl : ki = 3 := by
        have a1 := ne_of_beq_false hk1
        have a2 := ne_of_beq_false hk2
        have a3 := ne_of_beq_false hk3
        omega
      show WpX _ _ _ _ _
      exact w_makeP (M 3 (by decide) (by decide)) hr (by rfl) (x_var (d := rowD r) 1 rfl (.inl rfl) rfl (dp_ex e13 hx) rfl rfl) hrow hf fun p H' e hp hpg => hQ p H' (e13.trans e) (fresh_back e13 hp) hpg
end
end TX
end
section
namespace TX
open PySem PySem.Spec PyProof.Rows L2 Evl W1 D1 MM LX HotX L2H
/-- what `except x:` wishes of an exception of the body -/
def Caught1 (X : Cx) (c : Value) (suite : List Stmt) (D : Ends) (Eout : XK) : XK := fun cls d H' =>
  ∃ b, PySem.W.exmOne X.K cls c = some b ∧ (b = true → ∀ (a : Addr) (oe : Obj) (pn : List (Addr × Obj)) (σ' : L2.St), H' a = none → σ'.length = X.N.length → L2N.Zn cls d oe → (∃ vs, oe.data = .fields vs) → BlX (X.suite a ((a, oe) :: pn)) suite σ' H' D) ∧ (b = false → Eout cls d H')
theorem bl_try1 {X : Cx} {c : Value} {x : Str} {body suite rest : List Stmt} {b₀ : Stmt} {np pos pos' : Pos} {σ : L2.St} {H : Hp} {D : Ends} {Eout : XK} (hs : X.stack = X.env :: X.outer) (hf : X.env.frame = some X.env.locals) (hc : Names X x c) (tk : L2N.Takes X fun cls d _ H => Eout cls d H)
    (hb : ∀ (pn : List (Addr × Obj)) (xe : Value → Shared → Prop) (E : XK), L2N.Takes (X.tr pn xe) (fun cls d _ H => E cls d H) → PassesOwn (model X.prog X.w) X.A X.env xe → (∀ cls d H', Caught1 X c (b₀ :: suite) { D with nx := fun σ' H' => BlX X rest σ' H' D } Eout cls d H' → E cls d H') →
      BlX (X.tr pn xe) body σ H { D with nx := fun σ' H' => BlX X rest σ' H' D }) : BlX X (.Try body [.ExceptHandler (some (.Name x np)) none (b₀ :: suite) pos'] [] [] pos :: rest) σ H D := by
  refine bl_st (L2N.ps_try_many (l := [(c, fun a cls d D σ H => ∀ oe pn, L2N.Zn cls d oe → (∃ vs, oe.data = .fields vs) → BlX (X.suite a ((a, oe) :: pn)) (b₀ :: suite) σ H D)]) (tb := fun W D σ H => ∀ pn xe, L2N.Takes (X.tr pn xe) W → PassesOwn (model X.prog X.w) X.A X.env xe → BlX (X.tr pn xe) body σ H D) (Wout := fun cls d _ H => Eout cls d H) hs hf tk
    (fun W pn xe tk po => ⟨fun pins s σ H D I h => (h pn xe tk po).run pins s I⟩) (.cons hc (fun a oe cls d pn hz hd => ⟨fun pins s σ H D I h => (h oe pn hz hd).run pins s I⟩) .nil)) ?_
  intro pn xe tk' po
  refine hb pn xe _ (takes_len tk') po fun cls d H' ⟨b, h1, h2, h3⟩ σ' hl => ⟨b, h1, fun hbt a ha oe pn hz hd => h2 hbt a oe pn σ' ha hl hz hd, h3⟩
section
variable {P : Program} {w : World} {K : PySem.W.Frag} {mg : Str → Option Value} {base : Heap} {C : Addr} {kd : PKind}
def S_apply (K : PySem.W.Frag) (C : Addr) (kd : PKind) : Sp := fun vs H Q E => ∃ p x st e, vs = [.ref p, x] ∧ PgAt K H p C kd st ∧ st.ok kd ∧ st.log.length ≤ 1000 ∧ Dp K H x (edD e) ∧ (st.busy = false → Edit.can e) ∧ AnsP K H E p C kd (fun st' H' => Q (.int (st'.done.length : Nat)) H') (st.act kd e)
theorem apply_ok (G : PgC K C) (D : Df K mg "_law_apply" s__law_apply)
    (Gput : Mf P w K mg base 9 C "put" P_Page_put (S_act K C kd "put")) (Gcut : Mf P w K mg base 9 C "cut" P_Page_cut (S_act K C kd "cut")) (Gres : Mf P w K mg base 9 C "resize" P_Page_resize (S_act K C kd "resize")) (Gturn : Mf P w K mg base 9 C "turn" P_Page_turn (S_act K C kd "turn")) (Gundo : Mf P w K mg base 9 C "undo" P_Page_undo (S_act K C kd "undo")) : Gf P w K mg base 10 "_law_apply" P__law_apply (S_apply K C kd) := by
  refine D.gf 9 sc__law_apply (fun vs H Q E h => ?_) (fun _ _ _ _ _ _ us hl => match us, hl with | [_, _], _ => rfl) fun cdv A outer s H vs Q E hr h => ?_
  · obtain ⟨_, _, _, _, rfl, _⟩ := h
    rfl
  · obtain ⟨p, x, st, e, rfl, hpg, ok, hlog, hx, hfit, hA⟩ := h
    have hx : Dp K H x (.tuple e.parts) := hx
    have h0 : atI e.parts 0 = some (.str (Edit.name e)) := by cases e <;> rfl
    refine bl_when (k := Edit.name e == "put") (b_eqS (d_ixT (ds := e.parts) (x_var 1 rfl (.inl rfl) rfl hx rfl rfl) d_int h0) d_str) (fun hk H1 e1 => ?_) fun hk1 H1 e1 => ?_
    · cases e with
      | put a b =>
        obtain ⟨dxp, v1, v2, v3, v4, v5, v6, hp, V⟩ := id (hpg.ex e1)
        have hx1 : Dp K H1 x (.tuple [.str "put", .int a, .int b]) := dp_ex e1 hx
        refine bl_ret (w_methE (E := E) (p := p) (L2N.takes_of rfl rfl rfl rfl) G.cls Gput hr (v_var 0 rfl (.inl rfl) rfl rfl rfl) hp (fs_no (by decide)) (ds := [.int a, .int b]) (a_cons (d_ixT (d := .int a) (x_var 1 rfl (.inl rfl) rfl hx1 rfl rfl) d_int rfl) (a_cons (d_ixT (d := .int b) (x_var 1 rfl (.inl rfl) rfl hx1 rfl rfl) d_int rfl) a_nil)) fun vs H2 e2 hvs => ?_)
        have e12 := e1.trans e2
        exact ⟨p, vs, st, .put a b, rfl, rfl, hvs, hpg.ex e12, ok, hlog, hfit, hA.ex e12⟩
      | _ => exact nomatch (show false = true from hk)
    have hA := hA.ex e1
    have hpg := hpg.ex e1
    have hx := dp_ex e1 hx
    refine bl_when (k := Edit.name e == "cut") (b_eqS (d_ixT (ds := e.parts) (x_var 1 rfl (.inl rfl) rfl hx rfl rfl) d_int h0) d_str) (fun hk H1 e1 => ?_) fun hk2 H1 e1 => ?_
    · cases e with
      | cut a =>
        obtain ⟨dxp, v1, v2, v3, v4, v5, v6, hp, V⟩ := id (hpg.ex e1)
        have hx1 : Dp K H1 x (.tuple [.str "cut", .int a]) := dp_ex e1 hx
        refine bl_ret (w_methE (E := E) (p := p) (L2N.takes_of rfl rfl rfl rfl) G.cls Gcut hr (v_var 0 rfl (.inl rfl) rfl rfl rfl) hp (fs_no (by decide)) (ds := [.int a]) (a_cons (d_ixT (d := .int a) (x_var 1 rfl (.inl rfl) rfl hx1 rfl rfl) d_int rfl) a_nil) fun vs H2 e2 hvs => ?_)
        exact ⟨p, vs, st, .cut a, rfl, rfl, hvs, hpg.ex (e1.trans e2), ok, hlog, hfit, hA.ex (e1.trans e2)⟩
      | _ => exact nomatch (show false = true from hk)
    have hA := hA.ex e1
    have hpg := hpg.ex e1
    have hx := dp_ex e1 hx
    refine bl_when (k := Edit.name e == "resize") (b_eqS (d_ixT (ds := e.parts) (x_var 1 rfl (.inl rfl) rfl hx rfl rfl) d_int h0) d_str) (fun hk H1 e1 => ?_) fun hk3 H1 e1 => ?_
    · cases e with
      | resize a b =>
        obtain ⟨dxp, v1, v2, v3, v4, v5, v6, hp, V⟩ := id (hpg.ex e1)
        have hx1 : Dp K H1 x (.tuple [.str "resize", .int a, .int b]) := dp_ex e1 hx
        refine bl_ret (w_methE (E := E) (p := p) (L2N.takes_of rfl rfl rfl rfl) G.cls Gres hr (v_var 0 rfl (.inl rfl) rfl rfl rfl) hp (fs_no (by decide)) (ds := [.int a, .int b]) (a_cons (d_ixT (d := .int a) (x_var 1 rfl (.inl rfl) rfl hx1 rfl rfl) d_int rfl) (a_cons (d_ixT (d := .int b) (x_var 1 rfl (.inl rfl) rfl hx1 rfl rfl) d_int rfl) a_nil)) fun vs H2 e2 hvs => ?_)
        exact ⟨p, vs, st, .resize a b, rfl, rfl, hvs, hpg.ex (e1.trans e2), ok, hlog, hfit, hA.ex (e1.trans e2)⟩
      | _ => exact nomatch (show false = true from hk)
    have hA := hA.ex e1
    have hpg := hpg.ex e1
    have hx := dp_ex e1 hx
    refine bl_ret (.of (pe_ifExp tt pp pp) ?_)
    show WtX _ _ _ _ _
    refine EvB.go (b := Edit.name e == "turn") (b_eqS (d_ixT (ds := e.parts) (x_var 1 rfl (.inl rfl) rfl hx rfl rfl) d_int h0) d_str) fun H2 e2 => ?_
    obtain ⟨dxp, v1, v2, v3, v4, v5, v6, hp, V⟩ := id (hpg.ex e2)
    cases e with
    | turn =>
      show WpX _ _ _ _ _
      refine w_meth0E (E := E) (p := p) (L2N.takes_of rfl rfl rfl rfl) G.cls Gturn hr (v_var 0 rfl (.inl rfl) rfl rfl rfl) hp (fs_no (by decide)) fun H3 e3 => ?_
      have e23 := e2.trans e3
      exact ⟨p, [], st, .turn, rfl, rfl, .nil, hpg.ex e23, ok, hlog, hfit, hA.ex e23⟩
    | undo =>
      show WpX _ _ _ _ _
      refine w_meth0E (E := E) (p := p) (L2N.takes_of rfl rfl rfl rfl) G.cls Gundo hr (v_var 0 rfl (.inl rfl) rfl rfl rfl) hp (fs_no (by decide)) fun H3 e3 => ?_
      have e23 := e2.trans e3
      exact ⟨p, [], st, .undo, rfl, rfl, .nil, hpg.ex e23, ok, hlog, hfit, hA.ex e23⟩
    | put _ _ => exact nomatch (show true = false from hk1)
    | cut _ => exact nomatch (show true = false from hk2)
    | resize _ _ => exact nomatch (show true = false from hk3)
/-- the outcome of a call -/
def outD : Except Bad Pg → PyData → Prop
  | .ok st', d => d = .list [.str "ok", .int (st'.done.length : Nat)]
  | .error b, d => ∃ dv, d = .list [.str b.name, dv]
def aftP (st : Pg) : Except Bad Pg → Pg
  | .ok st' => st'
  | .error _ => st
def S_did (K : PySem.W.Frag) (C : Addr) (kd : PKind) : Sp := fun vs H Q _ => ∃ p x st e, vs = [.ref p, x] ∧ PgAt K H p C kd st ∧ st.ok kd ∧ st.log.length ≤ 1000 ∧ Dp K H x (edD e) ∧ (st.busy = false → Edit.can e) ∧
  ∀ v d H', FrI (· = p) H H' → PgAt K H' p C kd (aftP st (st.act kd e)) → outD (st.act kd e) d → Dp K H' v d → Q v H'
theorem did_ok (D : Df K mg "_law_did" s__law_did) (Ga : Gf P w K mg base 10 "_law_apply" P__law_apply (S_apply K C kd)) (Gn : GfE P w K mg base 1 "_law_name" P__law_name (S_err K fun b v _ _ => v = .str b.name)) (Gl : GfE P w K mg base 1 "_law_field" P__law_field (S_err K fun _ v _ H' => ∃ dv, Dp K H' v dv))
    {c1 c2 : Value} (n1 : ∃ a, mg "WrapError" = some (.ref a) ∧ c1 = .ref a) (n2 : ∃ a, mg "NoPlace" = some (.ref a) ∧ c2 = .ref a) (Hx : ∀ b, b ≠ Bad.noWidth → PySem.W.exmAny K (.ref (Bad.adr K b)) [c1, c2] = some true) (hact : ∀ (st : Pg) (e : Edit) (b : Bad), st.act kd e = Except.error b → b ≠ Bad.noWidth) : Gf P w K mg base 11 "_law_did" P__law_did (S_did K C kd) := by
  refine D.gf 10 sc__law_did (fun vs H Q E h => ?_) (fun _ _ _ _ _ _ us hl => match us, hl with | [_, _], _ => rfl) fun cdv A outer s H vs Q E hr h => ?_
  · obtain ⟨_, _, _, _, rfl, _⟩ := h
    rfl
  · obtain ⟨p, x, st, e, rfl, hpg, ok, hlog, hx, hfit, hQ⟩ := h
    have S := sc__law_did
    obtain ⟨a1, m1, rfl⟩ := n1
    obtain ⟨a2, m2, rfl⟩ := n2
    refine bl_tryT (i := 2) (cs := [.ref a1, .ref a2]) (Eout := E) rfl rfl S.nd rfl rfl (tst2 ⟨by rfl, by decide, .inl m1⟩ ⟨by rfl, by decide, .inl m2⟩) (L2N.takes_of rfl rfl rfl rfl) fun pn xe Eb tk po hcaught => ?_
    -- what an error leads to
    have bad : ∀ (b : Bad) (H5 : Hp), Ex H H5 → st.act kd e = .error b → RsB K H5 Eb b := by
      intro b H5 e5 hres
      refine RsB.of b fun cls d H6 e6 hE => hcaught cls d H6 ⟨true, by rw [hE.1]; exact Hx b (hact st e b hres), fun _ a oe pn' σ' ha hl hz hd => ?_, fun h => by cases h⟩
      have hset : (σ'.set 2 (some (V.ref a)))[2]? = some (some (V.ref a)) := List.getElem?_set_self (by rw [hl]; show 2 < 3; decide)
      refine bl_ret (w_lst (wa_cons (w_callX (HotP.suite hz hd) Gn ⟨(hr.mono (show 1 ≤ 10 by decide)).dp, (hr.mono (show 1 ≤ 10 by decide)).un⟩ (by rfl) (v_var 2 rfl (.inl rfl) hset rfl rfl) fun H7 e7 => ⟨b, rfl, hE.ex e7, fun v H8 e8 hv => ?_⟩)))
      subst hv
      refine wa_cons (w_callX (HotP.suite hz hd) Gl ⟨(hr.mono (show 1 ≤ 10 by decide)).dp, (hr.mono (show 1 ≤ 10 by decide)).un⟩ (by rfl) (v_var 2 rfl (.inl rfl) hset rfl rfl) fun H9 e9 => ⟨b, rfl, hE.ex (e7.trans (e8.trans e9)), fun u H10 e10 ⟨dv, hu⟩ => wa_nil ⟨by simp, fun t ht => ?_⟩⟩)
      have e11 : Ex H10 (upd H10 t (.lst [.str b.name, u])) := Ex.new ht
      have e111 := e5.trans (e6.trans (e7.trans (e8.trans (e9.trans (e10.trans e11)))))
      rw [hres] at hQ
      exact hQ _ (.list [.str b.name, dv]) _ (FrI.of e111) (hpg.ex e111) ⟨dv, rfl⟩ (.lst (sq_of upd_same) (.cons (.str _) (.cons (dp_ex e11 hu) .nil)))
    refine bl_ret (w_lst (wa_cons ((d_str (x := "ok")).go fun v0 H1 e1 h0 => wa_cons (w_call (E := Eb) Ga hr (by rfl) (L2N.passes_call tk (fun _ _ _ _ z => z)) (wa_cons ((v_var (v := .ref p) 0 rfl (.inl rfl) rfl rfl rfl).go fun v1 H2 e2 h1 => wa_cons ((x_var (d := edD e) 1 rfl (.inl rfl) rfl (dp_ex (e1.trans e2) hx) rfl rfl : EvD _ _ _ _ (edD e)).go fun v2 H3 e3 h2 => wa_nil ?_)))))))
    subst h1
    cases h0
    have e13 := e1.trans (e2.trans e3)
    refine ⟨p, v2, st, e, rfl, hpg.ex e13, ok, hlog, h2, hfit, ?_⟩
    cases ho : st.act kd e with
    | error b => exact bad b H3 e13 ho
    | ok st' =>
      intro H4 f4 hp4
      refine wa_nil ⟨by simp, fun t ht => ?_⟩
      have e5 : Ex H4 (upd H4 t (.lst [.str "ok", .int (st'.done.length : Nat)])) := Ex.new ht
      rw [ho] at hQ
      exact hQ _ _ _ ((FrI.of e13).trans (f4.trans (FrI.of e5))) (hp4.ex e5) rfl (.lst (sq_of upd_same) (.cons (.str _) (.cons (.int _) .nil)))
end
end TX
end
section
namespace TX
open PySem PySem.Spec PyProof.Rows L2 Evl W1 D1 MM LX
/-! ### the size of what repr shows -/
theorem tf_len : ∀ (ts : List Str) (k m : Nat) (acc : Str), (∀ t ∈ ts, t.length ≤ m) → (textFrom k acc ts).length ≤ acc.length + (m + 2) * ts.length
  | [], _, _, _, _ => Nat.le_refl _
  | t :: r, k, m, acc, h => by
    have ih := tf_len r (k + 1) m (acc ++ (if k > 0 then ", " else "" : String) ++ t) fun x hx => h x (List.mem_cons_of_mem _ hx)
    have h1 := h t (List.mem_cons_self ..)
    have e : (acc ++ (if k > 0 then ", " else "" : String) ++ t : Str).length ≤ acc.length + 2 + t.length := by
      rw [show (acc ++ (if k > 0 then ", " else "" : String) ++ t : Str).length = (acc ++ (if k > 0 then ", " else "" : String) : Str).length + t.length from Str.length_append .., show (acc ++ (if k > 0 then ", " else "" : String) : Str).length = acc.length + ((if k > 0 then ", " else "" : String) : Str).length from Str.length_append ..]
      have : (((if k > 0 then ", " else "" : String) : Str)).length ≤ 2 := by
        split <;> decide +kernel
      omega
    rw [List.length_cons, Nat.mul_succ]
    show (textFrom (k + 1) _ r).length ≤ _
    omega
theorem lt_len {ts : List Str} {m : Nat} (h : ∀ t ∈ ts, t.length ≤ m) : (listText ts).length ≤ (m + 2) * ts.length + 2 := by
  have h1 := tf_len ts 0 m "[" h
  have e1 : ("[" : Str).length = 1 := by decide +kernel
  have e2 : ("]" : Str).length = 1 := by decide +kernel
  unfold listText
  rw [show (textFrom 0 "[" ts ++ "]" : Str).length = (textFrom 0 "[" ts).length + ("]" : Str).length from Str.length_append ..]
  omega
theorem piled_le {m : Nat} : ∀ {ts : List Str}, (∀ t ∈ ts, t.length ≤ m) → piled ts ≤ (m + 2) * ts.length
  | [], _ => Nat.le_refl _
  | t :: r, h => by
    have ih := piled_le (ts := r) fun x hx => h x (List.mem_cons_of_mem _ hx)
    have h1 := h t (List.mem_cons_self ..)
    rw [piled_cons, List.length_cons, Nat.mul_succ]
    omega
theorem tt_len {ts : List Str} {m : Nat} (h : ∀ t ∈ ts, t.length ≤ m) : (tupleText ts).length ≤ (m + 2) * ts.length + 3 := by
  have e1 : ("(" : Str).length = 1 := by decide +kernel
  have e2 : (((if ts.length == 1 then ",)" else ")" : String) : Str)).length ≤ 2 := by
    split <;> decide +kernel
  have e3 : (PySem.Str.join ", " ts).length ≤ (m + 2) * ts.length := by
    cases ts with
    | nil => exact Nat.zero_le _
    | cons a r =>
      have := join_length_add (a :: r) (by simp)
      have := piled_le h
      omega
  unfold tupleText
  rw [show (("(" : Str) ++ PySem.Str.join ", " ts ++ (if ts.length == 1 then ",)" else ")" : String) : Str).length = (("(" : Str) ++ PySem.Str.join ", " ts : Str).length + (((if ts.length == 1 then ",)" else ")" : String) : Str)).length from Str.length_append .., show (("(" : Str) ++ PySem.Str.join ", " ts : Str).length = ("(" : Str).length + (PySem.Str.join ", " ts).length from Str.length_append ..]
  omega
theorem shownAll_map {α : Type} (f : α → PyData) : ∀ l : List α, PyData.shownAll (l.map f) = l.map fun x => (f x).shown
  | [] => by simp [PyData.shownAll]
  | a :: l => by rw [List.map_cons, List.map_cons, PyData.shownAll, shownAll_map f l]
theorem row_shown {r : List Int} (h : RowOk r) : (rowD r).shown.length ≤ 150 := by
  have z : (rowD r).shown = tupleText (r.map fun x => (PyData.int x).shown) := by
    unfold rowD
    rw [PyData.shown, shownAll_map]
  rw [z]
  have h1 := tt_len (m := 4) (ts := r.map fun x => (PyData.int x).shown) fun t ht => by
    obtain ⟨x, hx, rfl⟩ := List.mem_map.mp ht
    have := h.all x hx
    have e : (PyData.int x).shown = sI x := by simp only [PyData.shown]; rfl
    rw [e]
    exact sI_len (by omega) (by omega)
  have := h.few
  rw [List.length_map] at h1
  omega
theorem part_shown {d : PyData} (h : PartOk d) : d.shown.length ≤ 402 ∨ True := .inr trivial
theorem word_shown (x : Str) (h : x.length ≤ 6) (ha : ∀ c ∈ x.cps.toList, c < 128) : (PyData.str x).shown.length ≤ 62 := by
  have z : (PyData.str x).shown = reprText x := by simp only [PyData.shown]
  rw [z]
  have := StrLaws.reprText_len x fun c hc => Nat.lt_of_lt_of_le (ha c hc) (by decide)
  omega
theorem int_shown {i : Int} (h : small i) : (PyData.int i).shown.length ≤ 62 := by
  have e : (PyData.int i).shown = sI i := by simp only [PyData.shown]; rfl
  rw [e]
  exact Nat.le_trans (sI_len h.1 h.2) (by decide)
theorem edit_shown {e : Edit} (h : e.fit) : (edD e).shown.length ≤ 200 := by
  have w1 := word_shown "put" (by decide +kernel) (by decide +kernel)
  have w2 := word_shown "cut" (by decide +kernel) (by decide +kernel)
  have w3 := word_shown "resize" (by decide +kernel) (by decide +kernel)
  have w4 := word_shown "turn" (by decide +kernel) (by decide +kernel)
  have key : ∀ ds : List PyData, ds.length ≤ 3 → (∀ d ∈ ds, d.shown.length ≤ 62) → (PyData.tuple ds).shown.length ≤ 200 := fun ds hl hd => by
    have z : (PyData.tuple ds).shown = tupleText (ds.map fun x => x.shown) := by
      rw [PyData.shown]
      have := shownAll_map (fun x : PyData => x) ds
      rw [List.map_id'] at this
      rw [this]
    rw [z]
    have h1 := tt_len (m := 62) (ts := ds.map fun x => x.shown) fun t ht => by
      obtain ⟨x, hx, rfl⟩ := List.mem_map.mp ht
      exact hd x hx
    rw [List.length_map] at h1
    omega
  refine key e.parts (parts_few e) fun d hd => ?_
  cases e with
  | put p l =>
    simp only [Edit.parts, List.mem_cons, List.not_mem_nil, or_false] at hd
    rcases hd with rfl | rfl | rfl
    · exact w1
    · exact int_shown h.1
    · exact int_shown ⟨by have := h.2.1; omega, by have := h.2.2; omega⟩
  | cut p =>
    simp only [Edit.parts, List.mem_cons, List.not_mem_nil, or_false] at hd
    rcases hd with rfl | rfl
    · exact w2
    · exact int_shown h
  | resize p l =>
    simp only [Edit.parts, List.mem_cons, List.not_mem_nil, or_false] at hd
    rcases hd with rfl | rfl | rfl
    · exact w3
    · exact int_shown h.1
    · exact int_shown ⟨by have := h.2.1; omega, by have := h.2.2; omega⟩
  | turn =>
    simp only [Edit.parts, List.mem_cons, List.not_mem_nil, or_false] at hd
    rw [hd]
    exact w4
  | undo => exact h.elim
theorem done_shown {l : List Edit} (hl : l.length ≤ 60) (h : ∀ e ∈ l, e.fit) : (doneD l).shown.length ≤ 13000 := by
  have z : (doneD l).shown = tupleText (l.map fun x => (edD x).shown) := by
    unfold doneD
    rw [PyData.shown, shownAll_map]
  rw [z]
  have h1 := tt_len (m := 200) (ts := l.map fun x => (edD x).shown) fun t ht => by
    obtain ⟨x, hx, rfl⟩ := List.mem_map.mp ht
    exact edit_shown (h x hx)
  rw [List.length_map] at h1
  omega
/-- what _law_seen looks at -/
def seenD (st : Pg) : PyData := .list [r_row st, r_size st, r_version st, r_edits st, r_version st, r_str st]
end TX
end
section
namespace TX
open PySem PySem.Spec PyProof.Rows L2 Evl W1 D1 MM LX
/-! ### texts of plain signs -/
def Asc (x : Str) : Prop := ∀ c ∈ TL.tl x, c < 128
theorem asc_app {x y : Str} (h1 : Asc x) (h2 : Asc y) : Asc (x ++ y) := fun c hc => by
  rw [TL.tl_append] at hc
  rcases List.mem_append.mp hc with z | z
  · exact h1 c z
  · exact h2 c z
theorem asc_joinL {S : List Nat} (hs : ∀ c ∈ S, c < 128) : ∀ l : List (List Nat), (∀ p ∈ l, ∀ c ∈ p, c < 128) → ∀ c ∈ TL.joinL S l, c < 128
  | [], _, c, hc => nomatch hc
  | [p], h, c, hc => h p (List.mem_cons_self ..) c hc
  | p :: q :: r, h, c, hc => by
    have hc : c ∈ p ++ (S ++ TL.joinL S (q :: r)) := hc
    rcases List.mem_append.mp hc with z | z
    · exact h p (List.mem_cons_self ..) c z
    · rcases List.mem_append.mp z with z | z
      · exact hs c z
      · exact asc_joinL hs (q :: r) (fun p hp => h p (List.mem_cons_of_mem _ hp)) c z
theorem asc_join {y : Str} {l : List Str} (hy : Asc y) (h : ∀ x ∈ l, Asc x) : Asc (Txt.join y l) := fun c hc => by
  rw [TL.join_eq, TL.tl_join] at hc
  refine asc_joinL hy _ (fun p hp => ?_) c hc
  obtain ⟨x, hx, rfl⟩ := List.mem_map.mp hp
  exact h x hx
theorem asc_num {i : Int} (h : small i) : Asc (sI i) := fun c hc => by
  obtain ⟨a, b⟩ := sI_nat h.1 h.2
  rw [b] at hc
  have := a.digs c hc
  omega
theorem asc_empty : Asc Str.empty := fun c hc => nomatch hc
theorem asc_lit {x : Str} (h : (TL.tl x).all (· < 128) = true) : Asc x := fun c hc => by
  have := List.all_eq_true.mp h c hc
  simpa using this
theorem asc_fold : ∀ {l : List Str} {x : Str}, Asc x → (∀ y ∈ l, Asc y) → Asc (l.foldl (· ++ ·) x)
  | [], _, h, _ => h
  | y :: l, x, h, hl => asc_fold (l := l) (asc_app h (hl y (List.mem_cons_self ..))) fun z hz => hl z (List.mem_cons_of_mem _ hz)
theorem len_fold : ∀ (l : List Str) (x : Str), (l.foldl (· ++ ·) x).length = x.length + (l.map (·.length)).sum
  | [], x => rfl
  | y :: l, x => by
    rw [List.foldl_cons, len_fold l, show (x ++ y).length = x.length + y.length from Str.length_append .., List.map_cons, List.sum_cons, Nat.add_assoc]
theorem txt_of {x : Str} (h : x.length ≤ 100000) (a : Asc x) : TxtOk x := ⟨h, a⟩
theorem asc_str (st : Pg) {kd : PKind} (ok : st.ok kd) : Asc (strText st) := by
  have h1 := ok.now.1.few
  have h2 := ok.few
  refine asc_fold asc_empty fun y hy => ?_
  simp only [List.mem_cons, List.not_mem_nil, or_false] at hy
  rcases hy with rfl | rfl | rfl | rfl
  · exact asc_num ⟨by omega, by omega⟩
  · exact asc_lit (by decide +kernel)
  · exact asc_num ⟨by omega, by omega⟩
  · exact asc_lit (by decide +kernel)
theorem len_str (st : Pg) {kd : PKind} (ok : st.ok kd) : (strText st).length ≤ 30 := by
  have h1 := ok.now.1.few
  have h2 := ok.few
  have l1 := sI_len (i := ((st.now.length : Nat) : Int)) (by omega) (by omega)
  have l2 := sI_len (i := ((st.done.length : Nat) : Int)) (by omega) (by omega)
  unfold strText
  rw [len_fold]
  have e1 : (" words, " : Str).length = 8 := by decide +kernel
  have e2 : (" edits" : Str).length = 6 := by decide +kernel
  have e0 : Str.empty.length = 0 := rfl
  simp only [List.map_cons, List.map_nil, List.sum_cons, List.sum_nil, e1, e2, e0]
  omega
theorem seen_shown {st : Pg} {kd : PKind} (ok : st.ok kd) : (seenD st).shown.length ≤ sizeLine := by
  have h1 := ok.now.1.few
  have h2 := ok.few
  have z : (seenD st).shown = listText ([r_row st, r_size st, r_version st, r_edits st, r_version st, r_str st].map fun x => x.shown) := by
    unfold seenD
    rw [PyData.shown]
    have := shownAll_map (fun x : PyData => x) [r_row st, r_size st, r_version st, r_edits st, r_version st, r_str st]
    rw [List.map_id'] at this
    rw [this]
  rw [z]
  have hs : (r_str st).shown.length ≤ 13000 := by
    have e : (r_str st).shown = reprText (strText st) := by unfold r_str; simp only [PyData.shown]
    rw [e]
    have a := asc_str st ok
    have b := len_str st ok
    have := StrLaws.reprText_len (strText st) fun c hc => Nat.lt_of_lt_of_le (a c hc) (by decide)
    omega
  have h3 := lt_len (m := 13000) (ts := [r_row st, r_size st, r_version st, r_edits st, r_version st, r_str st].map fun x => x.shown) fun t ht => by
    obtain ⟨x, hx, rfl⟩ := List.mem_map.mp ht
    simp only [List.mem_cons, List.not_mem_nil, or_false] at hx
    have n1 : (r_size st).shown.length ≤ 62 := int_shown ⟨by omega, by omega⟩
    have n2 : (r_version st).shown.length ≤ 62 := int_shown ⟨by omega, by omega⟩
    rcases hx with rfl | rfl | rfl | rfl | rfl | rfl
    · exact Nat.le_trans (row_shown ok.now.1) (by decide)
    · omega
    · omega
    · exact done_shown ok.few ok.fit
    · omega
    · exact hs
  have e6 : ([r_row st, r_size st, r_version st, r_edits st, r_version st, r_str st].map fun x => x.shown).length = 6 := rfl
  rw [e6] at h3
  have : sizeLine = 16777216 := by decide
  omega
theorem showAll_of {l : List PyData} (h : ∀ d ∈ l, d.showable = true) : PyData.showableAll l = true := by
  induction l with
  | nil => simp only [PyData.showableAll]
  | cons a l ih => simp only [PyData.showableAll, h a (List.mem_cons_self ..), ih fun d hd => h d (List.mem_cons_of_mem _ hd), Bool.and_self]
theorem dictAll_of {l : List PyData} (h : ∀ d ∈ l, d.hasDict = false) : PyData.hasDictAll l = false := by
  induction l with
  | nil => simp only [PyData.hasDictAll]
  | cons a l ih => simp only [PyData.hasDictAll, h a (List.mem_cons_self ..), ih fun d hd => h d (List.mem_cons_of_mem _ hd), Bool.or_self]
theorem depAll_of {l : List PyData} {n : Nat} (h : ∀ d ∈ l, d.depth ≤ n) : PyData.depthAll l ≤ n := by
  induction l with
  | nil => simp only [PyData.depthAll]; omega
  | cons a l ih =>
    simp only [PyData.depthAll]
    have h1 := h a (List.mem_cons_self ..)
    have h2 := ih fun d hd => h d (List.mem_cons_of_mem _ hd)
    omega
/-- what repr asks of data -/
structure ShOk (n : Nat) (d : PyData) : Prop where
  sh : d.showable = true
  di : d.hasDict = false
  de : d.depth ≤ n
theorem sh_int {i : Int} {n : Nat} (h : small i) : ShOk n (.int i) := by
  refine ⟨?_, by simp only [PyData.hasDict], by simp only [PyData.depth]; omega⟩
  simp only [PyData.showable, decide_eq_true_eq]
  exact i64 (i2000 h.1 h.2)
theorem sh_str {x : Str} {n : Nat} : ShOk n (.str x) := ⟨by simp only [PyData.showable], by simp only [PyData.hasDict], by simp only [PyData.depth]; omega⟩
theorem sh_tup {l : List PyData} {n : Nat} (h : ∀ d ∈ l, ShOk n d) : ShOk (n + 1) (.tuple l) := by
  refine ⟨by simp only [PyData.showable]; exact showAll_of fun d hd => (h d hd).sh, by simp only [PyData.hasDict]; exact dictAll_of fun d hd => (h d hd).di, ?_⟩
  have := depAll_of fun d hd => (h d hd).de
  simp only [PyData.depth]
  omega
theorem sh_lst {l : List PyData} {n : Nat} (h : ∀ d ∈ l, ShOk n d) : ShOk (n + 1) (.list l) := by
  refine ⟨by simp only [PyData.showable]; exact showAll_of fun d hd => (h d hd).sh, by simp only [PyData.hasDict]; exact dictAll_of fun d hd => (h d hd).di, ?_⟩
  have := depAll_of fun d hd => (h d hd).de
  simp only [PyData.depth]
  omega
theorem sh_row {r : List Int} (h : RowOk r) : ShOk 2 (rowD r) := by
  refine sh_tup fun d hd => ?_
  obtain ⟨x, hx, rfl⟩ := List.mem_map.mp hd
  have := h.all x hx
  exact sh_int ⟨by omega, by omega⟩
theorem sh_edit {e : Edit} (h : e.fit) : ShOk 1 (edD e) := by
  refine sh_tup fun d hd => ?_
  cases e with
  | put p l =>
    simp only [Edit.parts, List.mem_cons, List.not_mem_nil, or_false] at hd
    rcases hd with rfl | rfl | rfl
    · exact sh_str
    · exact sh_int h.1
    · exact sh_int ⟨by have := h.2.1; omega, by have := h.2.2; omega⟩
  | cut p =>
    simp only [Edit.parts, List.mem_cons, List.not_mem_nil, or_false] at hd
    rcases hd with rfl | rfl
    · exact sh_str
    · exact sh_int h
  | resize p l =>
    simp only [Edit.parts, List.mem_cons, List.not_mem_nil, or_false] at hd
    rcases hd with rfl | rfl | rfl
    · exact sh_str
    · exact sh_int h.1
    · exact sh_int ⟨by have := h.2.1; omega, by have := h.2.2; omega⟩
  | turn =>
    simp only [Edit.parts, List.mem_cons, List.not_mem_nil, or_false] at hd
    rw [hd]
    exact sh_str
  | undo => exact h.elim
theorem sh_seen {st : Pg} {kd : PKind} (ok : st.ok kd) : ShOk 3 (seenD st) := by
  have h1 := ok.now.1.few
  have h2 := ok.few
  refine sh_lst fun d hd => ?_
  simp only [List.mem_cons, List.not_mem_nil, or_false] at hd
  rcases hd with rfl | rfl | rfl | rfl | rfl | rfl
  · exact sh_row ok.now.1
  · exact sh_int ⟨by omega, by omega⟩
  · exact sh_int ⟨by omega, by omega⟩
  · refine sh_tup fun d hd => ?_
    obtain ⟨x, hx, rfl⟩ := List.mem_map.mp hd
    exact sh_edit (ok.fit x hx)
  · exact sh_int ⟨by omega, by omega⟩
  · exact sh_str
end TX
end
section
namespace TX
open PySem PySem.Spec PyProof.Rows L2 Evl W1 D1 MM LX
/-- a global def within which repr may run -/
structure GfG (P : Program) (w : World) (K : PySem.W.Frag) (mg : Str → Option Value) (base : Heap) (k : Nat) (x : Str) (ps : List Str) (sp : Sp) : Prop where
  ex : ∃ fd, FnOkG P w K mg base (L2N.CX P w) k (He.ga K x) fd ps sp ∧ Binds K fd ps []
  m : mg x = some (.ref (He.ga K x))
  kp : PySem.W.keepIn K (.ref (He.ga K x)) = true
section
variable {P : Program} {w : World} {K : PySem.W.Frag} {mg : Str → Option Value} {base : Heap}
theorem Df.gfG {x : Str} {st : Stmt} (D : Df K mg x st) (k : Nat) {N ps : List Str} {sp : Sp} (S : FnScope N ps (defScope st)) (len : ∀ vs H Q E, sp vs H Q E → vs.length = ps.length)
    (hb : ∀ (kV doc pm : Value) (an : Option Addr) (cdv ct : Value) (us : List Value), us.length = ps.length → bindArgs (PySem.W.fnOf x x (defArgs st) (defBody st) (defScope st) .none kV doc pm an cdv ct) ⟨us, []⟩ = pure (ps.zip us))
    (hbody : ∀ (cdv : Value) (A : Around) (outer : List Env) (s : Shared) (H : Hp) (vs : List V) (Q : VK) (E : XK), Room k (cX P w K mg base N x st (He.ga K x) cdv A outer s H E).A → (cX P w K mg base N x st (He.ga K x) cdv A outer s H E).A.guards = some [] → sp vs H Q E →
      BlX (cX P w K mg base N x st (He.ga K x) cdv A outer s H E) (defBody st) (start N vs) H { nx := fun _ H' => Q .non H', rt := Q }) : GfG P w K mg base (k + 1) x ps sp := by
  obtain ⟨fd, F⟩ := D.ex
  have hbn := F.bindsN hb
  obtain ⟨oc, od, dV, kV, doc, pm, an, cdv, ct, osl, rfl, lk, hcd, hD, hK⟩ := F.ex
  exact ⟨⟨_, fn_ofG lk hcd S len (fun A outer s H vs Q E hr hg h => ⟨fun D σ H => BlX _ _ σ H D, BlX.pss, hbody cdv A outer s H vs Q E hr hg h⟩), hbn⟩, D.m, F.kp⟩
section
variable {X : Cx} {e : Expr} {es : List Expr} {σ : L2.St} {H : Hp} {pos p : Pos} {x : Str} {a C : Addr} {kd : PKind} {st : Pg} {k : Nat} {ps : List Str} {sp : Sp} {Q : VK} {E : XK} {r : Pg → PyData}
theorem w_callG (G : GfG X.prog X.w X.K X.mg X.base k x ps sp) (hr : Room k X.A) (hgd : X.A.guards = some []) (hg : Gl X x) (hx : Passes (L2N.CX X.prog X.w) X E) (h : WaX X (e :: es) σ H fun vs H1 => sp vs H1 Q E) (hdb : (x == ("__debug__" : Str)) = false := by decide)
    (he : starEach (e :: es) X.env = (false, eval e X.env) :: starEach es X.env := by rfl) (hpl : (backTo pos (starEach es X.env)).any (·.1) = false := by rfl) : WpX X (.Call (.Name x p) (e :: es) [] pos) σ H Q := by
  obtain ⟨fd, F, B⟩ := G.ex
  refine .of (pe_callG F hr hgd hg G.m G.kp B hx aa hdb he hpl) ?_
  show WaX X (e :: es) σ H fun vs H1 => sp (vs ++ []) H1 Q E
  have z : (fun (vs : List V) H1 => sp (vs ++ []) H1 Q E) = fun vs H1 => sp vs H1 Q E := by funext vs H1; rw [List.append_nil]
  rw [z]
  exact h
/-- len(o), str(o) of a page -/
theorem d_lenP (It : Itf X.prog X.w X.K X.mg X.base k C "__len__" ["self"] (S_get X.K C kd r_version)) (hr : Room (k + 1) X.A) (hg : Gl X "len") (B : Bi X.mg) (he : EvP X e σ H fun u _ => u = .ref a) (hp : PgAt X.K H a C kd st) (ok : st.ok kd) (hst : starEach [e] X.env = (false, eval e X.env) :: starEach [] X.env := by rfl) (hpl : (backTo pos (starEach [] X.env)).any (·.1) = false := by rfl) : EvD X (.Call (.Name "len" p) [e] [] pos) σ H (r_version st) := by
  obtain ⟨g, h1, h2, h3, F⟩ := It.ex
  refine .of (pe_callB (call_lenO (E := E0') h1 h3 F.raw hr passF) hg B.len boot_len (pa_cons pp pa_nil hst) (he := hst) (hpl := hpl)) fun H1 e1 Q q => he.run H1 e1 _ fun v H2 e2 hv => ?_
  subst hv
  have hp2 := hp.ex (e1.trans e2)
  obtain ⟨dx, v1, v2, v3, v4, v5, v6, hb, V⟩ := id hp2
  have := ok.few
  refine ⟨a, dx, _, rfl, hb, a, st, rfl, hp2, ok, fun z H' e' hz => ?_⟩
  have hz' := dp_int (show Dp X.K H' z (.int (st.done.length : Nat)) from hz)
  exact ⟨_, hz', by omega, by omega, q _ H' (e2.trans e') hz⟩
theorem d_strP (It : Itf X.prog X.w X.K X.mg X.base k C "__str__" ["self"] (S_get X.K C kd r_str)) (hr : Room (k + 3) X.A) (hg : Gl X "str") (B : Bi X.mg) (he : EvP X e σ H fun u _ => u = .ref a) (hp : PgAt X.K H a C kd st) (ok : st.ok kd) (hst : starEach [e] X.env = (false, eval e X.env) :: starEach [] X.env := by rfl) (hpl : (backTo pos (starEach [] X.env)).any (·.1) = false := by rfl) : EvD X (.Call (.Name "str" p) [e] [] pos) σ H (r_str st) := by
  obtain ⟨g, h1, h2, h3, F⟩ := It.ex
  refine .of (pe_callTy (call_strO (E := E0') h1 h3 F.raw (hr.mono (by omega)) ((show Room (k + 1) X.A.in1.in1 from (show Room (k + 2) X.A.in1 from hr.in1).in1).units0) passF) hg B.str boot_str (pa_cons pp pa_nil hst) (he := hst) (hpl := hpl)) fun H1 e1 Q q => he.run H1 e1 _ fun v H2 e2 hv => ?_
  subst hv
  have hp2 := hp.ex (e1.trans e2)
  obtain ⟨dx, v1, v2, v3, v4, v5, v6, hb, V⟩ := id hp2
  refine ⟨a, dx, _, rfl, hb, a, st, rfl, hp2, ok, fun z H' e' hz => ?_⟩
  have hz' := dp_str (show Dp X.K H' z (.str (strText st)) from hz)
  exact ⟨_, hz', q _ H' (e2.trans e') hz⟩
end
def S_seen (K : PySem.W.Frag) (C : Addr) (kd : PKind) : Sp := fun vs H Q _ => ∃ p st, vs = [.ref p] ∧ PgAt K H p C kd st ∧ st.ok kd ∧ ∀ H', Ex H H' → Q (.str (seenD st).shown) H'
theorem seen_ok {C : Addr} {kd : PKind} (G : PgC K C) (B : Bi mg) (D : Df K mg "_law_seen" s__law_seen) (G1 : Pf P w K mg base 1 C "row" (S_get K C kd r_row)) (G2 : Pf P w K mg base 1 C "size" (S_get K C kd r_size)) (G3 : Pf P w K mg base 1 C "version" (S_get K C kd r_version)) (G4 : Mf P w K mg base 1 C "edits" ["self"] (S_get K C kd r_edits))
    (G5 : Itf P w K mg base 1 C "__len__" ["self"] (S_get K C kd r_version)) (G6 : Itf P w K mg base 1 C "__str__" ["self"] (S_get K C kd r_str)) : GfG P w K mg base 5 "_law_seen" P__law_seen (S_seen K C kd) := by
  refine D.gfG 4 sc__law_seen (fun vs H Q E h => ?_) (fun _ _ _ _ _ _ us hl => match us, hl with | [_], _ => rfl) fun cdv A outer s H vs Q E hr hgd h => ?_
  · obtain ⟨_, _, rfl, _⟩ := h
    rfl
  · obtain ⟨p, st, rfl, hpg, ok, hQ⟩ := h
    have self : ∀ H1 pos, EvP (cX P w K mg base N__law_seen "_law_seen" s__law_seen (He.ga K "_law_seen") cdv A outer s H E) (.Name "_law_page" pos) [some (.ref p)] H1 (fun u _ => u = .ref p) := fun H1 pos => v_var 0 rfl (.inl rfl) rfl rfl rfl
    have hr2 : Room 2 (cX P w K mg base N__law_seen "_law_seen" s__law_seen (He.ga K "_law_seen") cdv A outer s H E).A := hr.mono (by decide)
    refine bl_ret (.of (pe_callB (call_reprD hgd (by have := hr.un; omega)) (by rfl) B.repr boot_repr (pa_cons pp pa_nil rfl) (by decide) (by decide) (by rfl) (by rfl)) ?_)
    show WpX _ _ _ _ _
    refine (n_lst (ds := [r_row st, r_size st, r_version st, r_edits st, r_version st, r_str st]) (a_cons (d_prop G.cls G1 hr2 (self _ _) hpg ok) (a_cons (d_prop G.cls G2 hr2 (self _ _) hpg ok) (a_cons (d_prop G.cls G3 hr2 (self _ _) hpg ok) (a_cons (d_get0 G.cls G4 (hr.mono (by decide)) (self _ _) hpg ok (by decide)) (a_cons (d_lenP G5 hr2 (by rfl) B (self _ _) hpg ok) (a_cons (d_strP G6 hr (by rfl) B (self _ _) hpg ok) a_nil)))))) (by simp)).go fun v H1 e1 ⟨l, xs, ev, hl0, hl1, hxs⟩ => ?_
    have s := sh_seen ok
    exact ⟨l, seenD st, by rw [ev], .lst (sq_of hl1) hxs, s.sh, s.di, Nat.le_trans s.de (by decide), seen_shown ok, hQ H1 e1⟩
end
end TX
end
section
namespace TX
open PySem PySem.Spec PyProof.Rows L2 Evl W1 D1 MM LX HotX L2H
section
variable {P : Program} {w : World} {K : PySem.W.Frag} {mg : Str → Option Value} {base : Heap} {C Cc : Addr} {kd : PKind}
/-- look on the page itself -/
def S_llook (K : PySem.W.Frag) (C : Addr) (kd : PKind) : Sp := fun vs H Q _ => ∃ p st wd, vs = [.ref p, .int wd] ∧ PgAt K H p C kd st ∧ st.ok kd ∧ ∀ H', FrI (· = p) H H' → PgAt K H' p C kd (cmdR kd st (.qy (.look wd))).2 → Q (.str (cmdR kd st (.qy (.look wd))).1) H'
theorem look_yes {kd : PKind} {st : Pg} {wd : Int} (h : 1 ≤ wd ∧ wd ≤ 2000) : cmdR kd st (.qy (.look wd)) = (linesText (linesPg { st with wanted := some wd }), { st with wanted := some wd }) := by
  simp only [cmdR, qyR]
  rw [if_pos h]
theorem look_no {kd : PKind} {st : Pg} {wd : Int} (h : ¬ (1 ≤ wd ∧ wd ≤ 2000)) : cmdR kd st (.qy (.look wd)) = (("error NoWidth" : Str), st) := by
  simp only [cmdR, qyR]
  rw [if_neg h]
  have : errText .noWidth = "error NoWidth" := by decide +kernel
  rw [← this]
theorem llook_ok (G : PgC K C) (D : Df K mg "_law_look" s__law_look) (Gl : Mf P w K mg base 7 C "look" P_Page_look (S_look K C kd)) (Gs : Gf P w K mg base 1 "_law_shown_lines" P__law_shown_lines (Spf K R_lines_text)) (m : mg "NoWidth" = some (.ref (He.ga K "NoWidth"))) (Hx : PySem.W.exmOne K (.ref (He.ga K "NoWidth")) (.ref (He.ga K "NoWidth")) = some true) :
    Gf P w K mg base 8 "_law_look" P__law_look (S_llook K C kd) := by
  refine D.gf 7 sc__law_look (fun vs H Q E h => ?_) (fun _ _ _ _ _ _ us hl => match us, hl with | [_, _], _ => rfl) fun cdv A outer s H vs Q E hr h => ?_
  · obtain ⟨_, _, _, rfl, _⟩ := h
    rfl
  · obtain ⟨p, st, wd, rfl, hpg, ok, hQ⟩ := h
    refine bl_try1 (c := .ref (He.ga K "NoWidth")) (Eout := E) rfl rfl ⟨by rfl, by decide, .inl m⟩ (L2N.takes_of rfl rfl rfl rfl) fun pn xe Eb tk po hcaught => ?_
    obtain ⟨dx, v1, v2, v3, v4, v5, v6, hp, V⟩ := id hpg
    refine bl_ret (w_call Gs (hr.mono (by decide)) (by rfl) (E := E0') passF (wa_cons (w_methE (E := Eb) (p := p) tk G.cls Gl hr (v_var 0 rfl (.inl rfl) rfl rfl rfl) hp (fs_no (by decide)) (ds := [.int wd]) (a_cons (x_var (d := .int wd) 1 rfl (.inl rfl) rfl (.int _) rfl rfl) a_nil) fun vs H2 e2 hvs => ?_)))
    obtain ⟨z, rfl, hz⟩ := dpa1 hvs
    refine ⟨p, st, z, some wd, rfl, hpg.ex e2, ok, hz, fun hw v H3 f3 hp3 hv => wa_nil ?_, fun hw => ?_⟩
    · have hw' := hw wd rfl
      rw [look_yes hw'] at hQ
      exact ⟨[_], _, ⟨_, rfl, lines_okPg (want_ok G ok hw), rfl⟩, .cons hv .nil, fun v' H' e' hv' => by cases hv'; exact hQ H' ((FrI.of e2).trans (f3.trans (FrI.of e'))) (hp3.ex e')⟩
    · have hw' : ¬ (1 ≤ wd ∧ wd ≤ 2000) := fun z => hw fun w' hw' => by cases hw'; exact z
      rw [look_no hw'] at hQ
      refine RsB.of .noWidth fun cls d H6 e6 hE => hcaught cls d H6 ⟨true, by rw [hE.1]; exact Hx, fun _ a oe pn' σ' ha hl hz hd => ?_, fun h => by cases h⟩
      have e26 := e2.trans e6
      exact bl_ret ((d_str (x := "error NoWidth")).go fun v H7 e7 hv => by cases hv; exact hQ H7 (FrI.of (e26.trans e7)) (hpg.ex (e26.trans e7)))
theorem join2 (x y : Str) : Txt.join " " [x, y] = x ++ " " ++ y := by
  rw [TL.join_eq]
  rfl
theorem look_text (wd : Int) : Cmd.text (.qy (.look wd)) = "look " ++ sI wd := by
  have e : (("look" : Str) ++ " " : Str) = "look " := by decide +kernel
  show Txt.join " " ["look", sI wd] = _
  rw [join2, e]
/-- look, by one of two consoles or the page itself -/
def S_looked (K : PySem.W.Frag) (Cc C : Addr) (kd : PKind) : Sp := fun vs H Q _ => ∃ a l0 l1 n p cl wd c1 c2 k1 k2 st, vs = [.ref a, .ref p, .ref cl, .int wd] ∧ StAt H a l0 l1 n ∧ n ≤ 900000 ∧ H cl = some (.lst [.ref c1, .ref c2]) ∧ cl ≠ a ∧ cl ≠ l0 ∧ CoAt K H c1 Cc p k1 ∧ CoAt K H c2 Cc p k2 ∧ k1 ≠ a ∧ k1 ≠ l0 ∧ k2 ≠ a ∧ k2 ≠ l0 ∧ c1 ≠ c2 ∧ PgAt K H p C kd st ∧ st.ok kd ∧ st.log.length ≤ 1000 ∧ small wd ∧
  ∀ H' k', FrM (fun b => Ms a l0 b ∨ b = p ∨ b = c1 ∨ b = c2) H H' → (k' = k1 ∨ H k' = none) → StAt H' a l0 l1 (n + 1) → CoAt K H' c1 Cc p k' → PgAt K H' p C kd (cmdR kd st (.qy (.look wd))).2 → Q (.str (cmdR kd st (.qy (.look wd))).1) H'
theorem co_ins {H : Hp} {c Cc p l : Addr} (h : CoAt K H c Cc p l) : ∃ dx fs, H c = some (.ins Cc dx fs) := by
  obtain ⟨dx, ds, hc, _⟩ := h
  exact ⟨dx, _, hc⟩
theorem pg_ins {H : Hp} {p : Addr} {st : Pg} (h : PgAt K H p C kd st) : ∃ dx fs, H p = some (.ins C dx fs) := by
  obtain ⟨dx, v1, v2, v3, v4, v5, v6, hp, V⟩ := h
  exact ⟨dx, _, hp⟩
theorem st_notIns {H : Hp} {a l0 l1 b D dx : Addr} {n : Nat} {fs : List (Str × V)} (h : StAt H a l0 l1 n) (hb : H b = some (.ins D dx fs)) : ¬ Ms a l0 b ∧ b ≠ l1 := by
  obtain ⟨ns, ms, t, e1, e2, e3, r⟩ := h.ex
  refine ⟨fun z => z.elim (fun z => ?_) fun z => ?_, fun z => ?_⟩
  · rw [z, e1] at hb; cases hb
  · rw [z, e2] at hb; cases hb
  · rw [z, e3] at hb; cases hb
theorem looked_ok (Gc : CoC K Cc) (G : PgC K C) (B : Bi mg) (D : Df K mg "_law_looked" s__law_looked) (Gd : Gf P w K mg base 1 "_law_draw" P__law_draw S_draw) (Gl : Gf P w K mg base 8 "_law_look" P__law_look (S_llook K C kd)) (Ge : Mf P w K mg base 13 Cc "execute" P_Console_execute (S_exec K Cc C kd)) : Gf P w K mg base 14 "_law_looked" P__law_looked (S_looked K Cc C kd) := by
  refine D.gf 13 sc__law_looked (fun vs H Q E h => ?_) (fun _ _ _ _ _ _ us hl => match us, hl with | [_, _, _, _], _ => rfl) fun cdv A outer s H vs Q E hr h => ?_
  · obtain ⟨_, _, _, _, _, _, _, _, _, _, _, _, rfl, _⟩ := h
    rfl
  · obtain ⟨a, l0, l1, n, p, cl, wd, c1, c2, k1, k2, st, rfl, hst, hn, hcl, d1, d2, hco1, hco2, d3, d4, d5, d6, d7, hpg, ok, hlog, hsm, hQ⟩ := h
    have S := sc__law_looked
    obtain ⟨dxp, fsp, hpi⟩ := pg_ins hpg
    obtain ⟨dxc1, fsc1, hc1i⟩ := co_ins hco1
    obtain ⟨dxc2, fsc2, hc2i⟩ := co_ins hco2
    have np := st_notIns hst hpi
    have nc1 := st_notIns hst hc1i
    have nc2 := st_notIns hst hc2i
    have hcp1 := co_ne hco1 hpg
    have hcp2 := co_ne hco2 hpg
    refine bl_set 4 S.nd rfl (.inl rfl) (w_draw Gd (hr.mono (by decide)) (by rfl) (v_var 0 rfl (.inl rfl) rfl rfl rfl) d_int hst (by omega) (by decide) (by decide) fun r H1 r0 r1 f1 st1 => ?_)
    have hpg1 := hpg.frm f1 np.1
    have hcl1 := f1.keep hcl (fun z => z.elim d1 d2)
    have hco11 := hco1.frm f1 nc1.1 (fun z => z.elim d3 d4)
    have hco21 := hco2.frm f1 nc2.1 (fun z => z.elim d5 d6)
    have F1 : FrM (fun b => Ms a l0 b ∨ b = p ∨ b = c1 ∨ b = c2) H H1 := f1.mono fun b z => .inl z
    refine bl_ret (.of (pe_ifExp tt pp pp) ?_)
    show WtX _ _ _ _ _
    refine EvB.go (b := r == 2) (b_eqI (x_var (d := .int r) 4 rfl (.inl rfl) rfl (.int _) rfl rfl) d_int) fun H2 e2 => ?_
    have stNe : ∀ {H' : Hp}, StAt H' a l0 l1 (n + 1) → ∀ b, b = p ∨ b = c1 ∨ b = c2 → a ≠ b ∧ l0 ≠ b ∧ l1 ≠ b := fun _ b hb => by
      rcases hb with rfl | rfl | rfl
      · exact ⟨fun z => np.1 (.inl z.symm), fun z => np.1 (.inr z.symm), fun z => np.2 z.symm⟩
      · exact ⟨fun z => nc1.1 (.inl z.symm), fun z => nc1.1 (.inr z.symm), fun z => nc1.2 z.symm⟩
      · exact ⟨fun z => nc2.1 (.inl z.symm), fun z => nc2.1 (.inr z.symm), fun z => nc2.2 z.symm⟩
    have q1 := stNe st1 p (.inl rfl)
    have q2 := stNe st1 c1 (.inr (.inl rfl))
    have q3 := stNe st1 c2 (.inr (.inr rfl))
    cases hk : r == 2 with
    | true =>
      show WpX _ _ _ _ _
      refine w_call Gl (hr.mono (by decide)) (by rfl) (E := E0') passF (wa_cons ((v_var (v := .ref p) 1 rfl (.inl rfl) rfl rfl rfl).go fun v1 H3 e3 h1 => wa_cons ((v_var (v := .int wd) 3 rfl (.inl rfl) rfl rfl rfl).go fun v2 H4 e4 h2 => wa_nil ?_)))
      subst h1 h2
      have e24 := e2.trans (e3.trans e4)
      refine ⟨p, st, wd, rfl, hpg1.ex e24, ok, fun H5 f5 hp5 => ?_⟩
      have g5 : FrM (· = p) H1 H5 := (FrM.of e24).trans (FrM.ofI f5)
      exact hQ H5 k1 (F1.trans (g5.mono fun b z => .inr (.inl z))) (.inl rfl) (st1.frm g5 q1.1 q1.2.1 q1.2.2) (hco11.frm g5 hcp1 (fun z => by
        obtain ⟨dx, ds, _, ⟨xs, hl, _⟩, _⟩ := hco11
        obtain ⟨dx', fs', hp'⟩ := pg_ins hpg1
        rw [z, hp'] at hl
        cases hl)) hp5
    | false =>
      have hr01 : r = 0 ∨ r = 1 := by
        have := ne_of_beq_false hk
        omega
      obtain ⟨c, k, hco, hne, hat, hck, qc⟩ : ∃ c k, CoAt K H1 c Cc p k ∧ c ≠ p ∧ atI ([.ref c1, .ref c2] : List V) r = some (.ref c) ∧ ((c = c1 ∧ k = k1) ∨ c = c2) ∧ (c = c1 ∨ c = c2) := by
        rcases hr01 with rfl | rfl
        · exact ⟨c1, k1, hco11, hcp1, rfl, .inl ⟨rfl, rfl⟩, .inl rfl⟩
        · exact ⟨c2, k2, hco21, hcp2, rfl, .inr rfl, .inr rfl⟩
      have qn := stNe st1 c (.inr qc)
      show WpX _ _ _ _ _
      refine w_meth (E := E0') (p := c) Gc.cls Ge hr passF ((v_ixL (v_var (v := .ref cl) 2 rfl (.inl rfl) rfl rfl rfl) (e2 _ _ hcl1) (x_var (d := .int r) 4 rfl (.inl rfl) rfl (.int _) rfl rfl) hat).go fun u H3 e3 hu => ?_)
      have e23 := e2.trans e3
      obtain ⟨dxc, ds, hc3, _⟩ := id (hco.ex e23)
      refine ⟨hu, dxc, _, hc3, rfl, ?_⟩
      refine wa_cons ((d_addS (i := "look ") (j := sI wd) d_str (d_strI (by rfl) B.str (x_var (d := .int wd) 3 rfl (.inl rfl) rfl (.int _) rfl rfl) (i2000 hsm.1 hsm.2)) ?_).go fun v H4 e4 hv => wa_nil ?_)
      · have := sI_len hsm.1 hsm.2
        have : ("look " : Str).length = 5 := by decide +kernel
        omega
      have e24 := e23.trans e4
      refine ⟨c, p, k, st, v, .qy (.look wd), rfl, hco.ex e24, hpg1.ex e24, ok, hlog, by rw [look_text]; exact hv, fun i hi => ?_, trivial, fun H5 l' f5 hl0 hp5 hco5 => ?_⟩
      · rw [List.mem_singleton.mp hi]
        exact hsm
      have g5 : FrM (fun b => b = p ∨ b = c) H1 H5 := (FrM.of e24).trans (FrM.ofI f5)
      have F5 : FrM (fun b => Ms a l0 b ∨ b = p ∨ b = c1 ∨ b = c2) H H5 := F1.trans (g5.mono fun b z => z.elim (fun z => .inr (.inl z)) fun z => by rw [z]; exact .inr (.inr qc))
      have hln : H l' = none := by
        have h1n : H1 l' = none := fresh_back e24 hl0
        cases hh : H l' with
        | none => rfl
        | some o =>
          rcases f1 l' o hh with z | z
          · rw [z] at h1n; cases h1n
          · obtain ⟨m1, m2, m3⟩ := st1.ne h1n
            exact absurd z.1 (fun z => z.elim (fun z => m1 z.symm) fun z => m2 z.symm)
      have st5 := st1.frm g5 (fun z => z.elim q1.1 qn.1) (fun z => z.elim q1.2.1 qn.2.1) (fun z => z.elim q1.2.2 qn.2.2)
      rcases hck with ⟨rfl, rfl⟩ | rfl
      · exact hQ H5 l' F5 (.inr hln) st5 hco5 hp5
      · exact hQ H5 k1 F5 (.inl rfl) st5 ((hco11.ex e24).fr f5 (fun z => z.elim hcp1 d7)) hp5
end
end TX
end
section
namespace TX
open PySem PySem.Spec PyProof.Rows L2 Evl W1 D1 MM LX HotX L2H
theorem app_empty (x : Str) : Str.empty ++ x = x := TL.ext_tl (by rw [TL.tl_append]; rfl)
theorem step_app (q : Int × Nat) : (sI q.1 ++ ":") ++ sI (q.2 : Nat) = stepText q := by
  show _ = ((Str.empty ++ sI q.1) ++ ":") ++ sI (q.2 : Nat)
  rw [app_empty]
def gStep2 (d f : PyData) : PyData := match d, f with
  | .int a, .int b => .str ((sI a ++ ":") ++ sI b)
  | _, _ => .none
section
variable {P : Program} {w : World} {K : PySem.W.Frag} {mg : Str → Option Value} {base : Heap} {C Cc : Addr} {kd : PKind}
def Qy.still : Qy → Prop
  | .look _ => False
  | _ => True
def S_lquery (K : PySem.W.Frag) (C : Addr) (kd : PKind) : Sp := fun vs H Q _ => ∃ p x st q, vs = [.ref p, x] ∧ PgAt K H p C kd st ∧ st.ok kd ∧ Dp K H x (.str (Cmd.text (.qy q))) ∧ (∀ i ∈ Qy.args q, small i) ∧ Qy.still q ∧ (∀ wd, q = .count wd → 1 ≤ wd ∧ wd ≤ 2000) ∧ ∀ H', Ex H H' → Q (.str (cmdR kd st (.qy q)).1) H'
theorem lquery_ok (G : PgC K C) (B : Bi mg) (D : Df K mg "_law_query" s__law_query) (Glines : Pf P w K mg base 4 C "lines" (S_get K C kd r_lines)) (Gsize : Pf P w K mg base 1 C "size" (S_get K C kd r_size)) (Grow : Pf P w K mg base 1 C "row" (S_get K C kd r_row))
    (Gitem : Itf P w K mg base 4 C "__getitem__" P_Page_getitem (S_item K C kd)) (Gcl : Gf P w K mg base 5 "count_lines" P_count_lines (S_count_lines K)) (Gs : Gf P w K mg base 1 "_law_shown_lines" P__law_shown_lines (Spf K R_lines_text)) (Grt : Gf P w K mg base 1 "row_text" P_row_text (Spf K R_row_text)) (Gst : Gf P w K mg base 5 "steps_of" P_steps_of (Spf K R_steps_of))
    (m1 : mg "NoPlace" = some (.ref (He.ga K "NoPlace"))) (Hx1 : PySem.W.exmOne K (.ref (He.ga K "NoPlace")) (.ref (He.ga K "NoPlace")) = some true) (m2 : mg "TooNarrow" = some (.ref (He.ga K "TooNarrow"))) (Hx2 : PySem.W.exmOne K (.ref (He.ga K "TooNarrow")) (.ref (He.ga K "TooNarrow")) = some true) : Gf P w K mg base 7 "_law_query" P__law_query (S_lquery K C kd) := by
  refine D.gf 6 sc__law_query (fun vs H Q E h => ?_) (fun _ _ _ _ _ _ us hl => match us, hl with | [_, _], _ => rfl) fun cdv A outer s H vs Q E hr h => ?_
  · obtain ⟨_, _, _, _, rfl, _⟩ := h
    rfl
  · obtain ⟨p, x, st, q, rfl, hpg, ok, hx, hsm, hst, hcw, hQ⟩ := h
    have S := sc__law_query
    have hlen : (Cmd.text (.qy q)).length ≤ 1000 := cmd_len (m := .qy q) hsm
    refine bl_set 2 S.nd rfl (.inl rfl) ((EvD.is (d1 := .list (.str (Qy.name q) :: ((Qy.args q).map sI).map .str)) (EvN.toD (n_split (a := Cmd.text (.qy q)) (b := " ") (x_var 1 rfl (.inl rfl) rfl hx rfl rfl) d_str (by rfl) (by omega))) (by rw [cmd_words (m := .qy q) hsm]; rfl)).go fun v H1 e1 hv => ?_)
    have hpg := hpg.ex e1
    have hQ : ∀ H', Ex H1 H' → Q (.str (cmdR kd st (.qy q)).1) H' := fun H' e => hQ H' (e1.trans e)
    have hrow := ok.now.1
    have hf := hrow.few
    refine bl_when (k := Qy.name q == "at") (b_eqS (d_ixL (d := .str (Qy.name q)) (i := 0) (x_var 2 rfl (.inl rfl) rfl hv rfl rfl) d_int (by unfold atI; rw [show ixN _ 0 = some 0 from ixN_nat (by omega) (by simp)]; rfl)) d_str) (fun hk H2 e2 => ?_) fun hk1 H2 e2 => ?_
    · cases q with
      | at_ i =>
        have hs := hsm i (List.mem_singleton.mpr rfl)
        have hv2 : Dp K H2 v (.list [.str "at", .str (sI i)]) := dp_ex e2 hv
        obtain ⟨gi, g1, g2, g3, Fi⟩ := Gitem.ex
        refine bl_try1 (c := .ref (He.ga K "NoPlace")) (Eout := E) rfl rfl ⟨by rfl, by decide, .inl m1⟩ (L2N.takes_of rfl rfl rfl rfl) fun pn xe Eb tk po hcaught => ?_
        obtain ⟨dxp, v1, v2, v3, v4, v5, v6, hp, V⟩ := id (hpg.ex e2)
        refine bl_ret (.of (pe_callTy (T := "str") (x := "str") call_str_int (by rfl) B.str boot_str (pa_cons pp pa_nil rfl) (by decide) (by decide) (by rfl) (by rfl)) ?_)
        show WpX _ _ _ _ _
        refine .of (pe_ixO (C := C) (E := Eb) pp pp g1 g2 g3 Fi.raw (hr.mono (by decide)) (L2N.passes_call tk (fun _ _ _ _ z => z))) ?_
        show WpX _ _ _ _ _
        refine (v_var (v := .ref p) 0 rfl (.inl rfl) rfl rfl rfl).go fun u H4 e4 hu => ?_
        show WpX _ _ _ _ _
        refine (d_intS (z := sI i) (n := i) (by rfl) B.int (d_ixL (d := .str (sI i)) (i := 1) (x_var 2 rfl (.inl rfl) rfl (dp_ex e4 hv2) rfl rfl) d_int rfl) (num_back hs) (by have := sI_len hs.1 hs.2; omega)).go fun z H5 e5 hz => ?_
        cases hz
        have e25 := e2.trans (e4.trans e5)
        have hR : cmdR kd st (.qy (.at_ i)) = if 0 ≤ i ∧ i < st.now.length then (sI (st.now.getD i.toNat 0), st) else (("error NoPlace" : Str), st) := by
          by_cases hi : 0 ≤ i ∧ i < st.now.length
          · simp only [cmdR, qyR]
            rw [if_pos hi, if_pos hi]
          · have : errText .noPlace = "error NoPlace" := by decide +kernel
            simp only [cmdR, qyR]
            rw [if_neg hi, if_neg hi, ← this]
        refine ⟨p, dxp, _, hu, e5 _ _ (e4 _ _ hp), p, st, i, rfl, hpg.ex e25, ok, fun hi H6 e6 => ?_, fun hi => ?_⟩
        · rw [hR, if_pos hi] at hQ
          have hlt : i.toNat < st.now.length := by omega
          have hv := ok.now.1.all (st.now.getD i.toNat 0) (by rw [List.getD_eq_getElem?_getD, List.getElem?_eq_getElem hlt]; exact List.getElem_mem hlt)
          exact ⟨_, rfl, i64 (by omega), hQ H6 (e25.trans e6)⟩
        · rw [hR, if_neg hi] at hQ
          refine RsB.of .noPlace fun cls d H6 e6 hE => hcaught cls d H6 ⟨true, by rw [hE.1]; exact Hx1, fun _ a oe pn' σ' ha hl hz hd => ?_, fun h => by cases h⟩
          exact bl_ret ((d_str (x := "error NoPlace")).go fun v H7 e7 hv => by cases hv; exact hQ H7 (e25.trans (e6.trans e7)))
      | _ => exact nomatch (show false = true from hk)
    have hpg := hpg.ex e2
    have hv := dp_ex e2 hv
    have hQ : ∀ H', Ex H2 H' → Q (.str (cmdR kd st (.qy q)).1) H' := fun H' e => hQ H' (e2.trans e)
    refine bl_when (k := Qy.name q == "count") (b_eqS (d_ixL (d := .str (Qy.name q)) (i := 0) (x_var 2 rfl (.inl rfl) rfl hv rfl rfl) d_int (by unfold atI; rw [show ixN _ 0 = some 0 from ixN_nat (by omega) (by simp)]; rfl)) d_str) (fun hk H3 e3 => ?_) fun hk2 H3 e3 => ?_
    · cases q with
      | count wd =>
        have hs := hsm wd (List.mem_singleton.mpr rfl)
        have hw := hcw wd rfl
        have hv2 : Dp K H3 v (.list [.str "count", .str (sI wd)]) := dp_ex e3 hv
        have hsl := starts_len st.now wd hrow.pos
        refine bl_try1 (c := .ref (He.ga K "TooNarrow")) (Eout := E) rfl rfl ⟨by rfl, by decide, .inl m2⟩ (L2N.takes_of rfl rfl rfl rfl) fun pn xe Eb tk po hcaught => ?_
        refine bl_ret (.of (pe_callTy (T := "str") (x := "str") call_str_int (by rfl) B.str boot_str (pa_cons pp pa_nil rfl) (by decide) (by decide) (by rfl) (by rfl)) ?_)
        show WpX _ _ _ _ _
        have hR : cmdR kd st (.qy (.count wd)) = if ∀ x ∈ st.now, x ≤ wd then (sI ((starts st.now wd).length : Nat), st) else (("error TooNarrow" : Str), st) := by
          by_cases hi : ∀ x ∈ st.now, x ≤ wd
          · simp only [cmdR, qyR]
            rw [if_pos hw, if_pos hi, if_pos hi]
          · have : errText .tooNarrow = "error TooNarrow" := by decide +kernel
            simp only [cmdR, qyR]
            rw [if_pos hw, if_neg hi, if_neg hi, ← this]
        refine w_callE (E := Eb) tk Gcl (hr.mono (by decide)) (by rfl) (ds := [rowD st.now, .int wd]) (a_cons (d_prop (X := Cx.tr (cX P w K mg base N__law_query "_law_query" s__law_query (He.ga K "_law_query") cdv A outer s H E) pn xe) G.cls Grow (hr.mono (by decide)) (v_var 0 rfl (.inl rfl) rfl rfl rfl) (hpg.ex e3) ok) (a_cons (d_intS (z := sI wd) (n := wd) (by rfl) B.int (d_ixL (d := .str (sI wd)) (i := 1) (x_var 2 rfl (.inl rfl) rfl hv2 rfl rfl) d_int rfl) (num_back hs) (by have := sI_len hs.1 hs.2; omega)) a_nil)) fun vs H4 e4 hvs => ⟨st.now, wd, hvs, hrow.pos, by omega, fun ha H5 e5 => ?_, fun hn => ?_⟩
        · rw [hR, if_pos ha] at hQ
          exact ⟨_, rfl, i64 (by omega), hQ H5 (e3.trans (e4.trans e5))⟩
        · rw [hR, if_neg hn] at hQ
          exact (show RsB K H4 Eb .tooNarrow from RsB.of .tooNarrow fun cls d H6 e6 hE => hcaught cls d H6 ⟨true, by rw [hE.1]; exact Hx2, fun _ a oe pn' σ' ha hl hz hd => bl_ret ((d_str (x := "error TooNarrow")).go fun v H7 e7 hv => by cases hv; exact hQ H7 (e3.trans (e4.trans (e6.trans e7)))), fun h => by cases h⟩)
      | _ => exact nomatch (show false = true from hk)
    have hpg := hpg.ex e3
    have hv := dp_ex e3 hv
    have hQ : ∀ H', Ex H3 H' → Q (.str (cmdR kd st (.qy q)).1) H' := fun H' e => hQ H' (e3.trans e)
    -- the dict
    have h4 := steps_small hrow
    have hsum := steps_sum hrow
    have hsz : st.now.length ≤ 24 := hf
    have self : ∀ H1 pos, EvP (cX P w K mg base N__law_query "_law_query" s__law_query (He.ga K "_law_query") cdv A outer s H E) (.Name "_law_page" pos) [some (.ref p), some x, some v, none, none, none] H1 (fun u _ => u = .ref p) := fun H1 pos => v_var 0 rfl (.inl rfl) rfl rfl rfl
    refine bl_set 3 S.nd rfl (.inl rfl) (.of (pe_disp (pps_cons pp pp (pps_cons pp pp (pps_cons pp pp pps_nil))) rfl rfl (by simp) (by simp)) fun d hd => ?_)
    have e4 : Ex H3 (upd H3 d (.dK [])) := Ex.new hd
    have hd4 : (upd H3 d (.dK [])) d = some (.dK []) := upd_same
    generalize upd H3 d (.dK []) = H4 at e4 hd4 ⊢
    show WpX _ _ _ _ _
    refine (d_str (x := "row")).go fun a1 H5 e5 h5 => ?_
    show WpX _ _ _ _ _
    refine (d_call Grt (hr.mono (by decide)) (by rfl) (ds := [rowD st.now]) (a_cons (d_prop G.cls Grow (hr.mono (by decide)) (self _ _) (hpg.ex (e4.trans e5)) ok) a_nil) ⟨st.now, rfl, hrow, rfl⟩).go fun b1 H6 e6 h6 => ?_
    show WpX _ _ _ _ _
    refine (d_str (x := "size")).go fun a2 H7 e7 h7 => ?_
    show WpX _ _ _ _ _
    have e47 := e4.trans (e5.trans (e6.trans e7))
    refine (d_strI (i := ((st.now.length : Nat) : Int)) (by rfl) B.str (d_prop G.cls Gsize (hr.mono (by decide)) (self _ _) (hpg.ex e47) ok) (by omega)).go fun b2 H8 e8 h8 => ?_
    show WpX _ _ _ _ _
    refine (d_str (x := "lines")).go fun a3 H9 e9 h9 => ?_
    show WpX _ _ _ _ _
    have e49 := e47.trans (e8.trans e9)
    refine (d_call Gs (hr.mono (by decide)) (by rfl) (ds := [r_lines st]) (a_cons (d_prop G.cls Glines (hr.mono (by decide)) (self _ _) (hpg.ex e49) ok) a_nil) ⟨linesPg st, rfl, lines_okPg ok, rfl⟩).go fun b3 H10 e10 h10 => ?_
    cases h5; cases h6; cases h7; cases h8; cases h9; cases h10
    have e510 := e5.trans (e6.trans (e7.trans (e8.trans (e9.trans e10))))
    refine ⟨e510 _ _ hd4, [(.inr "row", .str (rowText st.now)), (.inr "size", .str (sI (st.now.length : Nat))), (.inr "lines", .str (linesText (linesPg st)))], rfl, by simp, ?_⟩
    have e11 : Ex H3 (upd H10 d (.dK (mergeK [] [(.inr "row", .str (rowText st.now)), (.inr "size", .str (sI (st.now.length : Nat))), (.inr "lines", .str (linesText (linesPg st)))]))) := Ex.mut (e4.trans e510) hd
    have hd11 : (upd H10 d (.dK (mergeK [] [(.inr "row", .str (rowText st.now)), (.inr "size", .str (sI (st.now.length : Nat))), (.inr "lines", .str (linesText (linesPg st)))]))) d = some (.dK [(.inr "row", .str (rowText st.now)), (.inr "size", .str (sI (st.now.length : Nat))), (.inr "lines", .str (linesText (linesPg st)))]) := by
      rw [upd_same]
      congr 2
    generalize upd H10 d (.dK (mergeK [] [(.inr "row", .str (rowText st.now)), (.inr "size", .str (sI (st.now.length : Nat))), (.inr "lines", .str (linesText (linesPg st)))])) = H11 at e11 hd11 ⊢
    refine bl_st (ps_dput (hr.units0 |> fun _ => by have := hr.un; omega) pp pp pp (by rfl)) ?_
    show WpX _ _ _ _ _
    have hz : ((stepsOf st.now).map stepText).map PyData.str = (((stepsOf st.now).map fun q : Int × Nat => (PyData.int q.1, PyData.int (q.2 : Int))).map fun p => gStep2 p.1 p.2) := by
      rw [List.map_map, List.map_map]
      refine List.map_congr_left fun q _ => ?_
      show PyData.str (stepText q) = .str ((sI q.1 ++ ":") ++ sI (q.2 : Nat))
      rw [step_app]
    refine (d_join (sep := " ") (ys := (stepsOf st.now).map stepText) d_str ?_ ?_).go fun b4 H12 e12 h12 => ?_
    · rw [hz]
      refine EvN.toD (n_lcT2 (own := [("_law_width", 4), ("_law_count", 5)]) (i := 4) (j := 5) gStep2 (qs := (stepsOf st.now).map fun q : Int × Nat => (PyData.int q.1, PyData.int (q.2 : Int))) rfl S.nd (EvD.is (d := .tuple ((stepsOf st.now).map stD)) (d_call Gst (hr.mono (by decide)) (by rfl) (ds := [rowD st.now]) (a_cons (d_prop G.cls Grow (hr.mono (by decide)) (v_var 0 rfl (.inl rfl) rfl rfl rfl) (hpg.ex e11) ok) a_nil) ⟨st.now, rfl, hrow, rfl⟩) (by rw [List.map_map]; rfl)) (blkOk_by (N := N__law_query) (sc := defScope s__law_query) (by decide +kernel)) rfl rfl rfl rfl (fun _ _ => rfl) (by rw [List.length_map]; omega) (fun d hd => ?_) ?_)
      · obtain ⟨i, _, rfl⟩ := List.mem_map.mp hd
        rfl
      · intro s0 H0 C0 cl0 fp0 d f u v H1 e1 hm hu hv
        obtain ⟨q, hq, e⟩ := List.mem_map.mp hm
        cases e
        have hs := h4.1 q hq
        have l1 := sI_len hs.1.1 hs.1.2
        have l2 := sI_len hs.2.1 hs.2.2
        have e1 : (":" : Str).length = 1 := by decide +kernel
        refine d_addS (d_addS (d_strI (by rfl) B.str (x_var 4 rfl (by walk_at "vis") rfl hu rfl rfl) (i2000 hs.1.1 hs.1.2)) d_str (by rw [e1]; show (sI q.1).length + 1 ≤ _; omega)) (d_strI (by rfl) B.str (x_var 5 rfl (by walk_at "vis") rfl hv rfl rfl) (i2000 hs.2.1 hs.2.2)) ?_
        rw [show (sI q.1 ++ ":" : Str).length = (sI q.1).length + (":" : Str).length from Str.length_append .., e1]
        show (sI q.1).length + 1 + (sI (q.2 : Nat)).length ≤ _
        omega
    · show _ + _ * 1 ≤ _
      omega
    cases h12
    show WpX _ _ _ _ _
    refine (v_var (v := .ref d) 3 rfl (.inl rfl) rfl rfl rfl).go fun u H13 e13 hu => ?_
    show WpX _ _ _ _ _
    refine (d_str (x := "steps")).go fun y H14 e14 hy => ?_
    cases hy
    have hd14 := (e12.trans (e13.trans e14)) _ _ hd11
    refine ⟨d, _, hu, DPut.k (k := .inr "steps") hd14 (by show 3 < sizeLine; rw [sizeLine_eq]; decide), ?_⟩
    have e15 : Ex H3 (upd H14 d (.dK (putK [(.inr "row", .str (rowText st.now)), (.inr "size", .str (sI (st.now.length : Nat))), (.inr "lines", .str (linesText (linesPg st)))] (.inr "steps") (.str (stepsText st.now))))) := Ex.mut (e11.trans (e12.trans (e13.trans e14))) hd
    have hd15 : (upd H14 d (.dK (putK [(.inr "row", .str (rowText st.now)), (.inr "size", .str (sI (st.now.length : Nat))), (.inr "lines", .str (linesText (linesPg st)))] (.inr "steps") (.str (stepsText st.now))))) d = some (.dK [(.inr "row", .str (rowText st.now)), (.inr "size", .str (sI (st.now.length : Nat))), (.inr "lines", .str (linesText (linesPg st))), (.inr "steps", .str (stepsText st.now))]) := by
      rw [upd_same]
      congr 2
    show BlX _ _ _ (upd H14 d (.dK (putK [(.inr "row", .str (rowText st.now)), (.inr "size", .str (sI (st.now.length : Nat))), (.inr "lines", .str (linesText (linesPg st)))] (.inr "steps") (.str (stepsText st.now))))) _
    generalize upd H14 d (.dK (putK [(.inr "row", .str (rowText st.now)), (.inr "size", .str (sI (st.now.length : Nat))), (.inr "lines", .str (linesText (linesPg st)))] (.inr "steps") (.str (stepsText st.now)))) = H15 at e15 hd15 ⊢
    refine bl_ret (.of (pe_dget (by have := hr.un; omega) pp pp (fun _ _ => rfl)) ?_)
    show WpX _ _ _ _ _
    refine (v_var (v := .ref d) 3 rfl (.inl rfl) rfl rfl rfl).go fun u H16 e16 hu => ?_
    show WpX _ _ _ _ _
    refine (d_ixL (d := .str (Qy.name q)) (i := 0) (x_var 2 rfl (.inl rfl) rfl (dp_ex (e15.trans e16) hv) rfl rfl) d_int (by unfold atI; rw [show ixN _ 0 = some 0 from ixN_nat (by omega) (by simp)]; rfl)).go fun y H17 e17 hy => ?_
    cases hy
    have hd17 := (e16.trans e17) _ _ hd15
    have e317 := e15.trans (e16.trans e17)
    have fin : ∀ t, valV [((.inr "row" : Key), V.str (rowText st.now)), (.inr "size", .str (sI (st.now.length : Nat))), (.inr "lines", .str (linesText (linesPg st))), (.inr "steps", .str (stepsText st.now))] (.inr (Qy.name q)) = some (.str t) → (cmdR kd st (.qy q)).1 = t → ∃ a v, u = .ref a ∧ DGet H17 a (.str (Qy.name q)) (some v) ∧ Q v H17 := fun t h1 h2 => ⟨d, .str t, hu, by rw [← h1]; exact DGet.k (k := .inr (Qy.name q)) hd17, by rw [← h2]; exact hQ H17 e317⟩
    cases q with
    | row => exact fin _ rfl rfl
    | size => exact fin _ rfl rfl
    | lines => exact fin _ rfl rfl
    | steps => exact fin _ rfl rfl
    | look _ => exact hst.elim
    | at_ _ => exact nomatch (show true = false from hk1)
    | count _ => exact nomatch (show true = false from hk2)
end
end TX
end
section
namespace TX
open PySem PySem.Spec PyProof.Rows L2 Evl W1 D1 MM LX
section
variable {X : Cx} {e iter cond elt : Expr} {es : List Expr} {σ : L2.St} {H : Hp} {pos p p1 p2 : Pos} {x y : Str} {Q : VK} {j : Nat} {scope : Scope} {own : List (Str × Nat)} {l : Addr} {xs : List V}
theorem w_reprS (hg : Gl X "repr") (B : Bi X.mg) (h : WpX X e σ H fun v H1 => ∃ z : Str, v = .str z ∧ TxtOk z ∧ Q (.str (reprText z)) H1) (hst : starEach [e] X.env = (false, eval e X.env) :: starEach [] X.env := by rfl) (hpl : (backTo pos (starEach [] X.env)).any (·.1) = false := by rfl) : WpX X (.Call (.Name "repr" p) [e] [] pos) σ H Q := by
  refine .of (pe_callB call_reprS hg B.repr boot_repr (pa_cons pp pa_nil hst) (he := hst) (hpl := hpl)) ?_
  show WpX _ _ _ _ _
  exact h.imp fun v H1 ⟨z, hv, hz, q⟩ => ⟨z, by rw [hv], hz, q⟩
/-- [y for y in l if cond], no item passes -/
theorem w_lcNone {py : Pos} (hc : X.calm = true) (hN : X.N.Nodup) (hi : EvP X iter σ H fun v _ => v = .ref l) (hl : H l = some (.lst xs)) (ok : BlkOk X.N X.env.scope scope own) (hj : X.N[j]? = some y) (hy : scope.names.lookup y = some .local)
    (hw : ∀ v, wipe ((wipe σ (own.map (·.2))).set j (some v)) (own.map (·.2)) = wipe σ (own.map (·.2)))
    (Pv : Addr → Nat → Hp → Prop) (h0 : ∀ H1 d, Ex H H1 → H1 d = none → Pv d 0 (upd H1 d (.lst []))) (hk : ∀ d n H', Pv d n H' → H' l = some (.lst xs))
    (hs : Blk X scope fun X' => ∀ d i v H', xs[i]? = some v → Pv d i H' → WtX X' cond ((wipe σ (own.map (·.2))).set j (some v)) H' fun b H4 => b = false ∧ Pv d (i + 1) H4)
    (hd : ∀ d H', Pv d xs.length H' → Q (.ref d) H')
    (hfs : ∀ x, foldedSetIterable iter X.env x = pure x := by intro _; rfl) :
    WpX X (.ListComp elt [⟨.Name y py, iter, [cond], 0⟩] scope pos) σ H Q := by
  refine .of (pe_lc (own := own) (g := gName j) (tt := fun σ' H' Q => Blk X scope fun X' => WtX X' cond σ' H' Q) (te := fun σ' H' Q => Blk X scope fun X' => WpX X' elt σ' H' Q) hc hN (pi_list pp) ok (fun _ _ _ _ _ => pg_name (i := j) hN hj (.inl (lookup_relabel_local hy)) (.inr (lookup_relabel_local hy))) (fun s H C cl fp => pts_one ⟨fun pins s' _ _ _ I h => h s H C cl fp pins s' I⟩) (fun s H C cl fp => ⟨fun pins s' _ _ _ I h => h s H C cl fp pins s' I⟩) hfs) ?_
  show WpX _ _ _ _ _
  refine hi.go fun v H1 e1 hv => ⟨l, hv, ⟨xs, sq_of (e1 _ _ hl)⟩, fun d hd0 => ?_⟩
  refine lc_list (g := gName j) (tt := fun σ' H' Q => Blk X scope fun X' => WtX X' cond σ' H' Q) (te := fun σ' H' Q => Blk X scope fun X' => WpX X' elt σ' H' Q) (vs := own.map (·.2)) (σ := σ) (xs := xs) (Pv d) (h0 H1 d e1 hd0) (fun i H' _ hp => sq_of (hk d i H' hp)) (fun i v H' hv hp => ⟨hw _, ?_⟩) fun H' hp => hd d H' hp
  show Blk X scope fun X' => WtX X' cond _ H' _
  intro s0 H0 C0 cl0 fp0
  intro pins s I
  refine thn (hs s0 H0 C0 cl0 fp0 d i v H' hv hp pins s I) ?_
  rintro b s' ⟨H4, J, q1, q2⟩
  subst q1
  refine ⟨H4, J, ?_⟩
  dsimp only
  rw [if_neg (by decide)]
  exact q2
end
/-! ### the law's world: a stream, a console on the page p, the other page q -/
def MW (a l0 c p q : Addr) : Addr → Prop := fun b => Ms a l0 b ∨ b = c ∨ b = p ∨ b = q
structure Wd (K : PySem.W.Frag) (Cc C : Addr) (kd : PKind) (a l0 l1 c p q : Addr) (H : Hp) (n : Nat) (k : Addr) (st st' : Pg) : Prop where
  sa : StAt H a l0 l1 n
  co : CoAt K H c Cc p k
  pg : PgAt K H p C kd st
  qg : PgAt K H q C kd st'
  pq : p ≠ q
  ka : k ≠ a
  k0 : k ≠ l0
  k1 : k ≠ l1
  okp : st.ok kd
  okq : st'.ok kd
section
variable {K : PySem.W.Frag} {Cc C : Addr} {kd : PKind} {a l0 l1 c p q k : Addr} {H H' : Hp} {n m : Nat} {st st' st2 : Pg} {M : Addr → Prop}
theorem Wd.ins (w : Wd K Cc C kd a l0 l1 c p q H n k st st') {b : Addr} (hb : b = c ∨ b = p ∨ b = q) : (a ≠ b ∧ l0 ≠ b ∧ l1 ≠ b ∧ k ≠ b) := by
  obtain ⟨D, dx, fs, hi⟩ : ∃ D dx fs, H b = some (.ins D dx fs) := by
    rcases hb with rfl | rfl | rfl
    · obtain ⟨dx, fs, h⟩ := co_ins w.co; exact ⟨_, dx, fs, h⟩
    · obtain ⟨dx, fs, h⟩ := pg_ins w.pg; exact ⟨_, dx, fs, h⟩
    · obtain ⟨dx, fs, h⟩ := pg_ins w.qg; exact ⟨_, dx, fs, h⟩
  have z := st_notIns w.sa hi
  refine ⟨fun e => z.1 (.inl e.symm), fun e => z.1 (.inr e.symm), fun e => z.2 e.symm, fun e => ?_⟩
  obtain ⟨_, _, _, ⟨xs, hl, _⟩, _⟩ := w.co
  rw [e, hi] at hl
  cases hl
theorem Wd.cp (w : Wd K Cc C kd a l0 l1 c p q H n k st st') : c ≠ p := co_ne w.co w.pg
theorem co_ne2 {H : Hp} {c Cc p q l C : Addr} {kd : PKind} {st : Pg} (h1 : CoAt K H c Cc p l) (h2 : PgAt K H q C kd st) : c ≠ q := fun e => by
  obtain ⟨dx, ds, h3, _⟩ := h1
  obtain ⟨dx', v1, v2, v3, v4, v5, v6, h4, _⟩ := h2
  rw [e, h4] at h3
  cases hk : kd.lg <;> rw [hk] at h3 <;> simp [fsOf] at h3
theorem Wd.cq (w : Wd K Cc C kd a l0 l1 c p q H n k st st') : c ≠ q := co_ne2 w.co w.qg
theorem Wd.ex (w : Wd K Cc C kd a l0 l1 c p q H n k st st') (e : Ex H H') : Wd K Cc C kd a l0 l1 c p q H' n k st st' := ⟨w.sa.ex' e, w.co.ex e, w.pg.ex e, w.qg.ex e, w.pq, w.ka, w.k0, w.k1, w.okp, w.okq⟩
theorem Wd.mono (w : Wd K Cc C kd a l0 l1 c p q H n k st st') (h : n ≤ m) : Wd K Cc C kd a l0 l1 c p q H m k st st' := ⟨w.sa.mono h, w.co, w.pg, w.qg, w.pq, w.ka, w.k0, w.k1, w.okp, w.okq⟩
/-- numbers were drawn -/
theorem Wd.drawn (w : Wd K Cc C kd a l0 l1 c p q H n k st st') (f : FrM (Ms a l0) H H') (s : StAt H' a l0 l1 m) : Wd K Cc C kd a l0 l1 c p q H' m k st st' :=
  have i := fun {b} hb => w.ins (b := b) hb
  ⟨s, w.co.frm f (fun z => z.elim (fun z => (i (.inl rfl)).1 z.symm) fun z => (i (.inl rfl)).2.1 z.symm) (fun z => z.elim w.ka w.k0), w.pg.frm f (fun z => z.elim (fun z => (i (.inr (.inl rfl))).1 z.symm) fun z => (i (.inr (.inl rfl))).2.1 z.symm), w.qg.frm f (fun z => z.elim (fun z => (i (.inr (.inr rfl))).1 z.symm) fun z => (i (.inr (.inr rfl))).2.1 z.symm), w.pq, w.ka, w.k0, w.k1, w.okp, w.okq⟩
/-- nothing of the world was written -/
theorem Wd.away (w : Wd K Cc C kd a l0 l1 c p q H n k st st') (f : FrM M H H') (ha : ¬ M a) (h0 : ¬ M l0) (h1 : ¬ M l1) (hc : ¬ M c) (hk : ¬ M k) (hp : ¬ M p) (hq : ¬ M q) : Wd K Cc C kd a l0 l1 c p q H' n k st st' :=
  ⟨w.sa.frm f ha h0 h1, w.co.frm f hc hk, w.pg.frm f hp, w.qg.frm f hq, w.pq, w.ka, w.k0, w.k1, w.okp, w.okq⟩
/-- the page p was written -/
theorem Wd.setP (w : Wd K Cc C kd a l0 l1 c p q H n k st st') (f : FrI (· = p) H H') (h : PgAt K H' p C kd st2) (ok : st2.ok kd) : Wd K Cc C kd a l0 l1 c p q H' n k st2 st' :=
  have i := w.ins (b := p) (.inr (.inl rfl))
  ⟨w.sa.frm (FrM.ofI f) i.1 i.2.1 i.2.2.1, w.co.fr f w.cp, h, w.qg.fr f (fun z => w.pq z.symm), w.pq, w.ka, w.k0, w.k1, ok, w.okq⟩
/-- the page q was written -/
theorem Wd.setQ (w : Wd K Cc C kd a l0 l1 c p q H n k st st') (f : FrI (· = q) H H') (h : PgAt K H' q C kd st2) (ok : st2.ok kd) : Wd K Cc C kd a l0 l1 c p q H' n k st st2 :=
  have i := w.ins (b := q) (.inr (.inr rfl))
  ⟨w.sa.frm (FrM.ofI f) i.1 i.2.1 i.2.2.1, w.co.fr f w.cq, w.pg.fr f w.pq, h, w.pq, w.ka, w.k0, w.k1, w.okp, ok⟩
/-- the console was told a line -/
theorem Wd.told (w : Wd K Cc C kd a l0 l1 c p q H n k st st') (f : FrI (fun b => b = p ∨ b = c) H H') {k' : Addr} (hk : H k' = none) (h : PgAt K H' p C kd st2) (hc : CoAt K H' c Cc p k') (ok : st2.ok kd) : Wd K Cc C kd a l0 l1 c p q H' n k' st2 st' :=
  have i := w.ins (b := p) (.inr (.inl rfl))
  have j := w.ins (b := c) (.inl rfl)
  have g := FrM.ofI f
  have z := w.sa.ne hk
  ⟨w.sa.frm g (fun y => y.elim i.1 j.1) (fun y => y.elim i.2.1 j.2.1) (fun y => y.elim i.2.2.1 j.2.2.1), hc, h, w.qg.fr f (fun y => y.elim (fun y => w.pq y.symm) fun y => w.cq y.symm), w.pq, z.1.symm, z.2.1.symm, z.2.2.symm, ok, w.okq⟩
theorem MW.s {b : Addr} (h : Ms a l0 b) : MW a l0 c p q b := .inl h
theorem MW.atP : MW a l0 c p q p := .inr (.inr (.inl rfl))
theorem MW.atQ : MW a l0 c p q q := .inr (.inr (.inr rfl))
theorem MW.atC : MW a l0 c p q c := .inr (.inl rfl)
theorem FrM.s (f : FrM (Ms a l0) H H') : FrM (MW a l0 c p q) H H' := f.mono fun _ h => .inl h
theorem FrI.wp (f : FrI (· = p) H H') : FrM (MW a l0 c p q) H H' := (FrM.ofI f).mono fun _ h => by rw [h]; exact MW.atP
theorem FrI.wq (f : FrI (· = q) H H') : FrM (MW a l0 c p q) H H' := (FrM.ofI f).mono fun _ h => by rw [h]; exact MW.atQ
theorem FrI.wc (f : FrI (fun b => b = p ∨ b = c) H H') : FrM (MW a l0 c p q) H H' := (FrM.ofI f).mono fun _ h => by
  rcases h with h | h
  · rw [h]; exact MW.atP
  · rw [h]; exact MW.atC
/-- answered alike -/
structure Alike (st st' : Pg) : Prop where
  now : st.now = st'.now
  wanted : st.wanted = st'.wanted
theorem qy_after {q : Qy} (h : Qy.still q) : (cmdR kd st (.qy q)).2 = st := by
  cases q with
  | look _ => exact h.elim
  | lines => rfl
  | at_ i =>
    by_cases hi : 0 ≤ i ∧ i < st.now.length
    · simp only [cmdR, qyR]; rw [if_pos hi]
    · simp only [cmdR, qyR]; rw [if_neg hi]
  | size => rfl
  | count w =>
    by_cases hw : 1 ≤ w ∧ w ≤ 2000
    · by_cases ha : ∀ x ∈ st.now, x ≤ w
      · simp only [cmdR, qyR]; rw [if_pos hw, if_pos ha]
      · simp only [cmdR, qyR]; rw [if_pos hw, if_neg ha]
    · simp only [cmdR, qyR]; rw [if_neg hw]
  | steps => rfl
  | row => rfl
theorem qy_alike (h : Alike st st') {q : Qy} (hs : Qy.still q) : (cmdR kd st (.qy q)).1 = (cmdR kd st' (.qy q)).1 := by
  have e : linesPg st = linesPg st' := by unfold linesPg; rw [h.now, h.wanted]
  have hn := h.now
  cases q with
  | look _ => exact hs.elim
  | lines => simp only [cmdR, qyR, e]
  | at_ i =>
    by_cases hi : 0 ≤ i ∧ i < st'.now.length
    · simp only [cmdR, qyR, hn]; rw [if_pos hi, if_pos hi]
    · simp only [cmdR, qyR, hn]; rw [if_neg hi, if_neg hi]
  | size => simp only [cmdR, qyR, hn]
  | count w =>
    by_cases hw : 1 ≤ w ∧ w ≤ 2000
    · by_cases ha : ∀ x ∈ st'.now, x ≤ w
      · simp only [cmdR, qyR, hn]; rw [if_pos hw, if_pos hw, if_pos ha, if_pos ha]
      · simp only [cmdR, qyR, hn]; rw [if_pos hw, if_pos hw, if_neg ha, if_neg ha]
    · simp only [cmdR, qyR, hn]; rw [if_neg hw, if_neg hw]
  | steps => simp only [cmdR, qyR, hn]
  | row => simp only [cmdR, qyR, hn]
end
end TX
end
section
namespace TX
open PySem PySem.Spec PyProof.Rows L2 Evl W1 D1 MM LX
theorem txt_num {i : Int} (h : small i) : TxtOk (sI i) := ⟨by have := sI_len h.1 h.2; omega, asc_num h⟩
theorem txt_lines {lo : Option (List (List Int))} (h : LinesOk lo) : TxtOk (linesText lo) := by
  cases lo with
  | none => exact ⟨by decide +kernel, by decide +kernel⟩
  | some ls =>
    have hs1 : (" / " : Str).length = 3 := by decide +kernel
    have hs2 : (" " : Str).length = 1 := by decide +kernel
    have inner : ∀ l ∈ ls, (Txt.join " " (l.map sI)).length ≤ 120 ∧ Asc (Txt.join " " (l.map sI)) := fun l hl => by
      have z := h.2 l hl
      have h1 := join_len " " (l.map sI) 4 fun x hx => by
        obtain ⟨i, hi, rfl⟩ := List.mem_map.mp hx
        exact sI_len (z.2 i hi).1 (z.2 i hi).2
      rw [hs2, List.length_map] at h1
      refine ⟨by have := z.1; omega, asc_join (asc_lit (by decide +kernel)) fun x hx => ?_⟩
      obtain ⟨i, hi, rfl⟩ := List.mem_map.mp hx
      exact asc_num (z.2 i hi)
    have h2 := join_len " / " (ls.map fun l => Txt.join " " (l.map sI)) 120 fun x hx => by
      obtain ⟨l, hl, rfl⟩ := List.mem_map.mp hx
      exact (inner l hl).1
    rw [hs1, List.length_map] at h2
    have := h.1
    refine ⟨by show (Txt.join " / " _).length ≤ _; omega, asc_join (asc_lit (by decide +kernel)) fun x hx => ?_⟩
    obtain ⟨l, hl, rfl⟩ := List.mem_map.mp hx
    exact (inner l hl).2
theorem txt_row {r : List Int} (h : RowOk r) : TxtOk (rowText r) := by
  have hs2 : (" " : Str).length = 1 := by decide +kernel
  have h1 := join_len " " ("row" :: r.map sI) 4 fun x hx => by
    rcases List.mem_cons.mp hx with rfl | hx
    · decide +kernel
    · obtain ⟨i, hi, rfl⟩ := List.mem_map.mp hx
      have := h.all i hi
      exact sI_len (by omega) (by omega)
  rw [hs2, List.length_cons, List.length_map] at h1
  have := h.few
  refine ⟨by show (Txt.join " " _).length ≤ _; omega, asc_join (asc_lit (by decide +kernel)) fun x hx => ?_⟩
  rcases List.mem_cons.mp hx with rfl | hx
  · exact asc_lit (by decide +kernel)
  · obtain ⟨i, hi, rfl⟩ := List.mem_map.mp hx
    have := h.all i hi
    exact asc_num ⟨by omega, by omega⟩
theorem txt_steps {r : List Int} (h : RowOk r) : TxtOk (stepsText r) := by
  obtain ⟨h1, h2⟩ := steps_small h
  have hs2 : (" " : Str).length = 1 := by decide +kernel
  have h3 := join_len " " ((stepsOf r).map stepText) 9 fun x hx => by
    obtain ⟨q, hq, rfl⟩ := List.mem_map.mp hx
    exact stepText_len (h1 q hq)
  rw [hs2, List.length_map] at h3
  refine ⟨by show (Txt.join " " _).length ≤ _; omega, asc_join (asc_lit (by decide +kernel)) fun x hx => ?_⟩
  obtain ⟨q, hq, rfl⟩ := List.mem_map.mp hx
  refine asc_fold asc_empty fun y hy => ?_
  simp only [List.mem_cons, List.not_mem_nil, or_false] at hy
  rcases hy with rfl | rfl | rfl
  · exact asc_num (h1 q hq).1
  · exact asc_lit (by decide +kernel)
  · exact asc_num (h1 q hq).2
theorem txt_err (b : Bad) : TxtOk (errText b) := by cases b <;> exact ⟨by decide +kernel, by decide +kernel⟩
theorem txt_ok {i : Int} (h : small i) : TxtOk (okText i) := by
  have e1 : ("ok " : Str).length = 3 := by decide +kernel
  have e0 : Str.empty.length = 0 := rfl
  have := sI_len h.1 h.2
  unfold okText
  refine ⟨?_, asc_fold asc_empty fun y hy => ?_⟩
  · rw [len_fold]
    simp only [List.map_cons, List.map_nil, List.sum_cons, List.sum_nil, e1, e0]
    omega
  · simp only [List.mem_cons, List.not_mem_nil, or_false] at hy
    rcases hy with rfl | rfl
    · exact asc_lit (by decide +kernel)
    · exact asc_num h
theorem qy_txt {kd : PKind} {st : Pg} (ok : st.ok kd) {q : Qy} (hs : Qy.still q) : TxtOk (cmdR kd st (.qy q)).1 := by
  have hrow := ok.now.1
  have hf := hrow.few
  cases q with
  | look _ => exact hs.elim
  | lines => exact txt_lines (lines_okPg ok)
  | at_ i =>
    simp only [cmdR, qyR]
    by_cases hi : 0 ≤ i ∧ i < st.now.length
    · rw [if_pos hi]
      have hlt : i.toNat < st.now.length := by omega
      have hv := hrow.all (st.now.getD i.toNat 0) (by rw [List.getD_eq_getElem?_getD, List.getElem?_eq_getElem hlt]; exact List.getElem_mem hlt)
      exact txt_num ⟨by omega, by omega⟩
    · rw [if_neg hi]
      exact txt_err _
  | size => exact txt_num ⟨by omega, by omega⟩
  | count w =>
    have hsl := starts_len st.now w hrow.pos
    simp only [cmdR, qyR]
    by_cases hw : 1 ≤ w ∧ w ≤ 2000
    · rw [if_pos hw]
      by_cases ha : ∀ x ∈ st.now, x ≤ w
      · rw [if_pos ha]
        exact txt_num ⟨by omega, by omega⟩
      · rw [if_neg ha]
        exact txt_err _
    · rw [if_neg hw]
      exact txt_err _
  | steps => exact txt_steps hrow
  | row => exact txt_row hrow
end TX
end
section
namespace TX
open PySem PySem.Spec PyProof.Rows L2 Evl W1 D1 MM LX
section
variable {X : Cx} {e b : Expr} {σ : L2.St} {H : Hp} {pos p : Pos} {Q : VK} {i : Str}
theorem w_addS (ha : EvD X e σ H (.str i)) (hb : ∀ H1, Ex H H1 → WpX X b σ H1 fun y H2 => ∃ j : Str, y = .str j ∧ i.length + j.length ≤ 1000000 ∧ Q (.str (i ++ j)) H2) : WpX X (.BinOp e .Add b pos) σ H Q :=
  .of (pe_op op_add_str pp pp) (ha.go fun v H1 e1 hv => (hb H1 e1).imp fun y H2 ⟨j, hy, hl, q⟩ => ⟨i, j, dp_str hv, hy, by rw [sizeLine_eq]; omega, q⟩)
theorem w_strI (hg : Gl X "str") (B : Bi X.mg) (h : WpX X e σ H fun v H1 => ∃ j, v = .int j ∧ small j ∧ Q (.str (sI j)) H1) (hst : starEach [e] X.env = (false, eval e X.env) :: starEach [] X.env := by rfl) (hpl : (backTo pos (starEach [] X.env)).any (·.1) = false := by rfl) : WpX X (.Call (.Name "str" p) [e] [] pos) σ H Q := by
  refine .of (pe_callTy (T := "str") (x := "str") call_str_int hg B.str boot_str (pa_cons pp pa_nil hst) (by decide) (by decide) hst hpl) ?_
  show WpX _ _ _ _ _
  exact h.imp fun v H1 ⟨j, hv, hs, q⟩ => ⟨j, by rw [hv], i64 (i2000 hs.1 hs.2), q⟩
end
theorem join1 (y x : Str) : Txt.join y [x] = x := by
  rw [TL.join_eq]
  rfl
theorem at_text (i : Int) : Cmd.text (.qy (.at_ i)) = "at " ++ sI i := by
  have e : (("at" : Str) ++ " " : Str) = "at " := by decide +kernel
  show Txt.join " " ["at", sI i] = _
  rw [join2, e]
theorem count_text (i : Int) : Cmd.text (.qy (.count i)) = "count " ++ sI i := by
  have e : (("count" : Str) ++ " " : Str) = "count " := by decide +kernel
  show Txt.join " " ["count", sI i] = _
  rw [join2, e]
section
variable {P : Program} {w : World} {K : PySem.W.Frag} {mg : Str → Option Value} {base : Heap} {C Cc : Addr} {kd : PKind}
def S_qr (K : PySem.W.Frag) (Cc C : Addr) (kd : PKind) : Sp := fun vs H Q _ => ∃ a l0 l1 c p q n k st st', vs = [.ref a, .ref c, .ref q] ∧ Wd K Cc C kd a l0 l1 c p q H n k st st' ∧ n ≤ 800000 ∧ Alike st st' ∧ st.log.length ≤ 1000 ∧ ∀ H' k', FrM (MW a l0 c p q) H H' → Wd K Cc C kd a l0 l1 c p q H' (n + 20) k' st st' → Q (.bl true) H'
theorem Wd.free {a l0 l1 c p q k : Addr} {H : Hp} {n : Nat} {st st' : Pg} (W : Wd K Cc C kd a l0 l1 c p q H n k st st') {d : Addr} (hd : H d = none) : ¬ MW a l0 c p q d := fun z => by
  obtain ⟨n1, n2, _⟩ := W.sa.ne hd
  rcases z with z | z | z | z
  · exact z.elim (fun z => n1 z.symm) fun z => n2 z.symm
  · obtain ⟨dx, fs, h⟩ := co_ins W.co
    rw [z, h] at hd; cases hd
  · obtain ⟨dx, fs, h⟩ := pg_ins W.pg
    rw [z, h] at hd; cases hd
  · obtain ⟨dx, fs, h⟩ := pg_ins W.qg
    rw [z, h] at hd; cases hd
theorem queries_ok (Gc : CoC K Cc) (G : PgC K C) (B : Bi mg) (D : Df K mg "_law_queries_right" s__law_queries_right) (Gd : Gf P w K mg base 1 "_law_draw" P__law_draw S_draw) (Gw : Gf P w K mg base 2 "_law_width_drawn" P__law_width_drawn (S_widthd K)) (Grow : Pf P w K mg base 1 C "row" (S_get K C kd r_row))
    (Ge : Mf P w K mg base 13 Cc "execute" P_Console_execute (S_exec K Cc C kd)) (Gq : Gf P w K mg base 7 "_law_query" P__law_query (S_lquery K C kd)) : Gf P w K mg base 14 "_law_queries_right" P__law_queries_right (S_qr K Cc C kd) := by
  refine D.gf 13 sc__law_queries_right (fun vs H Q E h => ?_) (fun _ _ _ _ _ _ us hl => match us, hl with | [_, _, _], _ => rfl) fun cdv A outer s H vs Q E hr h => ?_
  · obtain ⟨_, _, _, _, _, _, _, _, _, _, rfl, _⟩ := h
    rfl
  · obtain ⟨a, l0, l1, c, p, q, n, k, st, st', rfl, W, hn, al, hlog, hQ⟩ := h
    have S := sc__law_queries_right
    have hr1 := hr.mono (show 1 ≤ 13 by decide)
    refine bl_set 3 S.nd rfl (.inl rfl) (w_addS (i := "count ") d_str fun H1 e1 => w_strI (by rfl) B (w_call Gw (hr.mono (by decide)) (by rfl) passF (wa_cons ((v_var (v := .ref a) 0 rfl (by walk_at "vis") rfl rfl rfl).go fun v1 H2 e2 h1 => wa_cons ((d_prop (p := q) G.cls Grow (hr.mono (by decide)) (v_var 2 rfl (by walk_at "vis") rfl rfl rfl) ((W.ex (e1.trans e2)).qg) W.okq).go fun v2 H3 e3 h2 => wa_nil ?_)))))
    subst h1
    have e13 := e1.trans (e2.trans e3)
    have W3 := W.ex e13
    refine ⟨a, l0, l1, n, v2, st'.now, rfl, W3.sa, by omega, h2, W.okq.now.1, fun wd H4 w0 w1 f4 s4 => ⟨wd, rfl, ⟨by omega, by omega⟩, _, rfl, ?_, ?_⟩⟩
    · have := sI_len (i := wd) (by omega) (by omega)
      have e : ("count " : Str).length = 6 := by decide +kernel
      omega
    have W4 := W3.drawn f4 s4
    have F4 : FrM (MW a l0 c p q) H H4 := (FrM.of e13).trans f4.s
    refine bl_set 4 S.nd rfl (.inl rfl) (w_lst (wa_cons ((d_str (x := "row")).go fun y1 H5 e5 h1 => wa_cons ((d_str (x := "size")).go fun y2 H6 e6 h2 => wa_cons ((d_str (x := "lines")).go fun y3 H7 e7 h3 => wa_cons ((d_str (x := "steps")).go fun y4 H8 e8 h4 => wa_cons (w_addS (i := "at ") d_str fun H9 e9 => w_strI (by rfl) B (w_draw Gd hr1 (by rfl) (v_var 0 rfl (by walk_at "vis") rfl rfl rfl) d_int ((W4.ex (e5.trans (e6.trans (e7.trans (e8.trans e9))))).sa) (by omega) (by decide) (by decide) fun ix H10 i0 i1 f10 s10 => ⟨ix, rfl, ⟨by omega, by omega⟩, _, rfl, ?_, ?_⟩))))))))
    · have := sI_len (i := ix) (by omega) (by omega)
      have e : ("at " : Str).length = 3 := by decide +kernel
      omega
    have e59 := e5.trans (e6.trans (e7.trans (e8.trans e9)))
    have W10 := (W4.ex e59).drawn f10 s10
    have F10 : FrM (MW a l0 c p q) H H10 := F4.trans ((FrM.of e59).trans f10.s)
    cases h1; cases h2; cases h3; cases h4
    refine wa_cons ((v_var (v := .str ("count " ++ sI wd)) 3 rfl (by walk_at "vis") rfl rfl rfl).go fun y6 H11 e11 h6 => wa_nil ⟨by simp, fun ll hll => ?_⟩)
    subst h6
    obtain ⟨qs, hqs⟩ : ∃ qs : List Qy, qs = [.row, .size, .lines, .steps, .at_ ix, .count wd] := ⟨_, rfl⟩
    have hxs : ([.str "row", .str "size", .str "lines", .str "steps", .str ("at " ++ sI ix), .str ("count " ++ sI wd)] : List V) = qs.map fun q => .str (Cmd.text (.qy q)) := by
      rw [hqs]
      simp only [List.map_cons, List.map_nil]
      rw [at_text, count_text, show Cmd.text (.qy .row) = "row" from join1 _ _, show Cmd.text (.qy .size) = "size" from join1 _ _, show Cmd.text (.qy .lines) = "lines" from join1 _ _, show Cmd.text (.qy .steps) = "steps" from join1 _ _]
    have hq : ∀ z ∈ qs, Qy.still z ∧ (∀ i ∈ Qy.args z, small i) ∧ (∀ wd, z = .count wd → 1 ≤ wd ∧ wd ≤ 2000) := fun z hz => by
      rw [hqs] at hz
      simp only [List.mem_cons, List.not_mem_nil, or_false] at hz
      rcases hz with rfl | rfl | rfl | rfl | rfl | rfl
      · exact ⟨trivial, (by intro i hi; cases hi), by intro _ h; cases h⟩
      · exact ⟨trivial, (by intro i hi; cases hi), by intro _ h; cases h⟩
      · exact ⟨trivial, (by intro i hi; cases hi), by intro _ h; cases h⟩
      · exact ⟨trivial, (by intro i hi; cases hi), by intro _ h; cases h⟩
      · exact ⟨trivial, (by intro i hi; rw [List.mem_singleton.mp hi]; exact ⟨by omega, by omega⟩), by intro _ h; cases h⟩
      · exact ⟨trivial, (by intro i hi; rw [List.mem_singleton.mp hi]; exact ⟨by omega, by omega⟩), by intro _ h; cases h; exact ⟨w0, w1⟩⟩
    rw [hxs]
    have W11 := W10.ex e11
    have nll := W11.free hll
    have W12 := W11.ex (Ex.new (o := .lst (qs.map fun q => .str (Cmd.text (.qy q)))) hll)
    have F12 : FrM (MW a l0 c p q) H (upd H11 ll (.lst (qs.map fun q => .str (Cmd.text (.qy q))))) := F10.trans ((FrM.of e11).trans (FrM.of (Ex.new hll)))
    have hl12 : (upd H11 ll (.lst (qs.map fun q => .str (Cmd.text (.qy q))))) ll = some (.lst (qs.map fun q => .str (Cmd.text (.qy q)))) := upd_same
    generalize upd H11 ll (.lst (qs.map fun q => .str (Cmd.text (.qy q)))) = H12 at W12 F12 hl12 ⊢
    refine bl_ret (.of (pe_cmpR (op_eqD (r64 hr)) pp pp (nomark _)) ?_)
    show WpX _ _ _ _ _
    refine w_lcNone (own := [("_law_line_here", 5)]) (j := 5) (l := ll) (xs := qs.map fun q => .str (Cmd.text (.qy q))) rfl S.nd (v_var 4 rfl (by walk_at "vis") rfl rfl rfl) hl12 (blkOk_by (N := N__law_queries_right) (sc := defScope s__law_queries_right) (by decide +kernel)) rfl rfl (fun _ => rfl)
      (fun d i H' => ∃ k', ¬ MW a l0 c p q d ∧ FrM (MW a l0 c p q) H12 H' ∧ Wd K Cc C kd a l0 l1 c p q H' (n + 11) k' st st' ∧ H' d = some (.lst []) ∧ H' ll = some (.lst (qs.map fun q => .str (Cmd.text (.qy q))))) (fun H13 d e13 hd => ?_) (fun d n H' h => ?_) ?_ (fun d H' h => ?_)
    · have eN : Ex H13 (upd H13 d (.lst [])) := Ex.new hd
      exact ⟨k, (W12.ex e13).free hd, (FrM.of e13).trans (FrM.of eN), ((W12.ex (e13.trans eN)).mono (by omega)), upd_same, eN _ _ (e13 _ _ hl12)⟩
    · obtain ⟨_, _, _, _, _, h⟩ := h
      exact h
    · intro s0 H0 C0 cl0 fp0 d i v H' hv hP
      obtain ⟨k', nd, fP, WP, hd, hl⟩ := hP
      rw [List.getElem?_map] at hv
      cases hqi : qs[i]? with
      | none => rw [hqi] at hv; cases hv
      | some z =>
        rw [hqi] at hv
        cases hv
        obtain ⟨z1, z2, z3⟩ := hq z (List.mem_of_getElem? hqi)
        refine .of (pt_cmpR op_ne pp pp (nomark _)) ?_
        show WpX _ _ _ _ _
        refine w_reprS (by rfl) B (w_meth (E := E0') (p := c) Gc.cls Ge hr passF ((v_var (v := .ref c) 1 rfl (by walk_at "vis") rfl rfl rfl).go fun u H5 e5 hu => ?_))
        obtain ⟨dxc, ds, hc5, _⟩ := id (WP.ex e5).co
        refine ⟨hu, dxc, _, hc5, rfl, wa_cons ((v_var (v := .str (Cmd.text (.qy z))) 5 rfl (by walk_at "vis") rfl rfl rfl).go fun y H6 e6 hy => wa_nil ?_)⟩
        subst hy
        have W6 := WP.ex (e5.trans e6)
        refine ⟨c, p, k', st, _, .qy z, rfl, W6.co, W6.pg, W.okp, hlog, .str _, z2, trivial, fun H7 l' f7 hl0 hp7 hco7 => ?_⟩
        rw [qy_after z1] at hp7
        have W7 := W6.told f7 hl0 hp7 hco7 W.okp
        have F7 : FrM (MW a l0 c p q) H' H7 := (FrM.of (e5.trans e6)).trans f7.wc
        refine ⟨_, rfl, qy_txt W.okp z1, ?_⟩
        show WpX _ _ _ _ _
        refine w_reprS (by rfl) B (w_call Gq (hr.mono (by decide)) (by rfl) (E := E0') passF (wa_cons ((v_var (v := .ref q) 2 rfl (by walk_at "vis") rfl rfl rfl).go fun y1 H8 e8 hy1 => wa_cons ((v_var (v := .str (Cmd.text (.qy z))) 5 rfl (by walk_at "vis") rfl rfl rfl).go fun y2 H9 e9 hy2 => wa_nil ?_))))
        subst hy1 hy2
        have W9 := W7.ex (e8.trans e9)
        refine ⟨q, _, st', z, rfl, W9.qg, W.okq, .str _, z2, z1, z3, fun H10 e10 => ⟨_, rfl, qy_txt W.okq z1, ?_⟩⟩
        have e710 := e8.trans (e9.trans e10)
        refine ⟨rfl, _, rfl, ?_, l', nd, fP.trans (F7.trans (FrM.of e710)), W7.ex e710, e710 _ _ (F7.keep hd nd), e710 _ _ (F7.keep hl nll)⟩
        rw [qy_alike al z1]
        simp
    · obtain ⟨k', nd, fP, WP, hd, hl⟩ := h
      show WpX _ _ _ _ _
      refine (d_lst (ds := []) a_nil (by decide)).go fun y H6 e6 hy => ?_
      refine ⟨.list [], .list [], .lst (sq_of (e6 _ _ hd)) .nil, hy, shaped_nil, shaped_nil, ?_⟩
      exact hQ H6 k' (F12.trans (fP.trans (FrM.of e6))) ((WP.ex e6).mono (by omega))
end
end TX
end
section
namespace TX
open PySem PySem.Spec PyProof.Rows L2 Evl W1 D1 MM LX
section
variable {X : Cx} {e b o iter elt : Expr} {es : List Expr} {σ : L2.St} {H : Hp} {pos apos p p1 p2 : Pos} {x y z : Str} {Q : VK} {i j k n : Nat} {scope : Scope} {own : List (Str × Nat)} {xs : List V} {ds : List PyData} {rest : List Stmt} {D : Ends} {pg C : Addr}
theorem EvN.toL (h : EvN X e σ H ds) : EvL X e σ H ds := ⟨fun H1 e1 Q q => h.run H1 e1 Q fun v H2 e2 ⟨a, xs, ev, _, ha, hx⟩ => q v H2 e2 ⟨a, xs, ev, ha, hx⟩⟩
theorem dpa_rep {K : PySem.W.Frag} {H : Hp} {vs : List V} {ds : List PyData} (h : DpAll K H vs ds) : ∀ n : Nat, DpAll K H (List.replicate n vs).flatten (List.replicate n ds).flatten
  | 0 => .nil
  | n + 1 => by
    rw [List.replicate_succ, List.replicate_succ, List.flatten_cons, List.flatten_cons]
    exact dpa_append h (dpa_rep h n)
/-- l * n -/
theorem n_repL (ha : EvN X e σ H ds) (hb : EvD X b σ H (.int (n : Nat))) (hn : n ≤ 1000) (hl : ds.length ≤ 50) : EvN X (.BinOp e .Mult b pos) σ H (List.replicate n ds).flatten :=
  .of (pe_op op_rep pp pp) fun H1 e1 Q q => ha.run H1 e1 _ fun u H2 e2 ⟨a, xs, hu, h0, hx, hd⟩ => hb.run H2 (e1.trans e2) _ fun v H3 e3 hv =>
    ⟨a, (n : Int), xs, hu, dp_int hv, e3 _ _ hx, by omega, by omega, by
      rw [dpa_length hd, Int.toNat_natCast]
      have : ds.length * n ≤ 50 * 1000 := Nat.mul_le_mul hl hn
      rw [sizeLine_eq]; omega, fun t ht => q _ _ (e2.trans (e3.trans (Ex.new ht))) ⟨t, _, rfl, fresh_back (e1.trans (e2.trans e3)) ht, upd_same, by rw [Int.toNat_natCast]; exact dpa_ex (Ex.new ht) (dpa_rep (dpa_ex e3 hd) n)⟩⟩
/-- a and .., the first one true -/
theorem w_andT (ha : EvD X e σ H (.bool true)) (h : ∀ H1, Ex H H1 → WpX X (.BoolOp .And (b :: es) pos) σ H1 Q) : WpX X (.BoolOp .And (e :: b :: es) pos) σ H Q := .of (pe_and pp pp) (ha.go fun v H1 e1 hv => ⟨true, dp_bl hv, h H1 e1⟩)
theorem w_andW (ha : WpX X e σ H fun v H1 => v = .bl true ∧ WpX X (.BoolOp .And (b :: es) pos) σ H1 Q) : WpX X (.BoolOp .And (e :: b :: es) pos) σ H Q := .of (pe_and pp pp) (ha.imp fun v H1 ⟨hv, h⟩ => ⟨true, hv, h⟩)
theorem w_last {op : BoolOp} (h : WpX X e σ H Q) : WpX X (.BoolOp op [e] pos) σ H Q := .of (pe_one pp) h
/-- o.run(e), no callback -/
theorem w_methR {sp : Sp} {E : XK} {pl : Sem Bool} (c : Cls X.K C) (M : Rf X.prog X.w X.K X.mg X.base k C sp) (hr : Room k X.A) (hx : Passes (L2N.CX X.prog X.w) X E) (h : WpX X o σ H fun u H1 => u = .ref pg ∧ ∃ dx fs, H1 pg = some (.ins C dx fs) ∧ fs.lookup ("run" : Str) = none ∧ WaX X (e :: es) σ H1 fun vs H2 => sp (.ref pg :: (vs ++ [.non])) H2 Q E)
    (hst : starEach (e :: es) X.env = (false, eval e X.env) :: starEach es X.env := by rfl) (hpl : (backTo pos (starEach es X.env)).any (·.1) = false := by rfl)
    (ht : eval (.Call (.Attribute o "run" apos) (e :: es) [] pos) X.env = (do
      let ov ← eval o X.env
      standAt apos.atName
      let (f, first) ← holding [ov] (getMethod ov "run" pl)
      callWith pos f first (backTo pos (starEach (e :: es) X.env)) (backToKw pos (keywordEach [] X.env))) := by rfl) : WpX X (.Call (.Attribute o "run" apos) (e :: es) [] pos) σ H Q := by
  obtain ⟨f, fd, hm, F, ⟨ds, hd, B⟩, _⟩ := M.ex
  refine .of (pe_meth pp c hm F hr B hd hx aa hst hpl ht) (h.imp fun u H1 ⟨hu, dx, fs, hp, l, q⟩ => ⟨pg, dx, fs, hu, hp, l, ?_⟩)
  rw [hu]
  exact q
/-- z = [e for y in l], e of any effect -/
theorem s_lcW {pz spos py : Pos} (iz : Nat) (hz0 : X.N[iz]? = some z) (hzl : X.env.scope.names.lookup z = some .local) (hc : X.calm = true) (hN : X.N.Nodup) (hi : EvP X iter σ H fun v H1 => ∃ l, v = .ref l ∧ H l = none ∧ H1 l = some (.lst xs)) (ok : BlkOk X.N X.env.scope scope own) (hj : X.N[j]? = some y) (hy : scope.names.lookup y = some .local)
    (hw : ∀ v, wipe ((wipe σ (own.map (·.2))).set j (some v)) (own.map (·.2)) = wipe σ (own.map (·.2)))
    (Pv : Addr → Addr → Nat → Hp → Prop) (h0 : ∀ H1 l d, Ex H H1 → H1 l = some (.lst xs) → H l = none → H1 d = none → Pv l d 0 (upd H1 d (.lst []))) (hk : ∀ l d n H', Pv l d n H' → H' l = some (.lst xs))
    (hs : Blk X scope fun X' => ∀ l d i v H', xs[i]? = some v → Pv l d i H' → WpX X' elt ((wipe σ (own.map (·.2))).set j (some v)) H' fun v H4 => ∃ acc, H4 d = some (.lst acc) ∧ acc.length < 100000 ∧ Pv l d (i + 1) (upd H4 d (.lst (acc ++ [v]))))
    (hd : ∀ l d H', Pv l d xs.length H' → BlX X rest (σ.set iz (some (.ref d))) H' D)
    (hfs : ∀ x, foldedSetIterable iter X.env x = pure x := by intro _; rfl)
    (hsw : swapsWith (.ListComp elt [⟨.Name y py, iter, [], 0⟩] scope pos) (some (.Name z pz)) spos.line X.env = pure true := by exact sw_true rfl rfl rfl (by decide +kernel)) :
    BlX X (.Assign [.Name z pz] (.ListComp elt [⟨.Name y py, iter, [], 0⟩] scope pos) spos :: rest) σ H D := by
  refine bl_st (ps_setLc (own := own) (g := gName j) (tt := tYes) (te := fun σ' H' Q => Blk X scope fun X' => WpX X' elt σ' H' Q) hc hN hz0 hzl hsw (pi_list pp) ok (fun _ _ _ _ _ => pg_name (i := j) hN hj (.inl (lookup_relabel_local hy)) (.inr (lookup_relabel_local hy))) (fun _ _ _ _ _ => pts_nil) (fun s H C cl fp => ⟨fun pins s' _ _ _ I h => h s H C cl fp pins s' I⟩) hfs) ?_
  show WpX _ _ _ _ _
  refine hi.go fun v H1 e1 ⟨l, hv, hl0, hl⟩ => ⟨l, hv, ⟨xs, sq_of hl⟩, fun d hd0 => ?_⟩
  refine lc_list (g := gName j) (tt := tYes) (te := fun σ' H' Q => Blk X scope fun X' => WpX X' elt σ' H' Q) (vs := own.map (·.2)) (σ := σ) (xs := xs) (Pv l d) (h0 H1 l d e1 hl hl0 hd0) (fun i H' _ hp => sq_of (hk l d i H' hp)) (fun i v H' hv hp => ⟨hw _, ?_⟩) fun H' hp => hd l d H' hp
  show Blk X scope fun X' => WpX X' elt _ H' _
  intro s0 H0 C0 cl0 fp0
  exact (hs s0 H0 C0 cl0 fp0 l d i v H' hv hp).imp fun v H4 ⟨acc, h1, h2, h3⟩ => ⟨acc, h1, Nat.lt_of_lt_of_le h2 (by rw [sizeLine_eq]; decide), h3⟩
end
section
variable {K : PySem.W.Frag} {Cc C : Addr} {kd : PKind} {st : Pg}
/-- the commands that a busy page refuses -/
def busyC : List Cmd := [.ed (.put 0 1), .ed .undo, .ed .turn, .ed (.cut 99), .ed (.resize 0 0), .run]
def busyT : List Str := ["error Busy", "error Busy", "error Busy", "error Busy", "error Busy", "unknown command"]
theorem busy_cmd (hb : st.busy = true) {i : Nat} {m : Cmd} (h : busyC[i]? = some m) : ∃ t, busyT[i]? = some t ∧ cmdR kd st m = (t, st) ∧ Cmd.can st m ∧ ∀ z ∈ Cmd.ints m, small z := by
  have eb : errText .busy = "error Busy" := by decide +kernel
  have key : ∀ e : Edit, cmdR kd st (.ed e) = (("error Busy" : Str), st) := fun e => by
    have ha : st.act kd e = .error .busy := by
      unfold Pg.act Pg.alone
      rw [if_pos hb]
    simp only [cmdR, ha]
    rw [← eb]
  have can : ∀ e : Edit, Cmd.can st (.ed e) := fun e h => by rw [hb] at h; cases h
  match i, h with
  | 0, h => cases h; exact ⟨_, rfl, key _, can _, by intro z hz; simp only [Cmd.ints, Edit.ints, List.mem_cons, List.not_mem_nil, or_false] at hz; rcases hz with rfl | rfl <;> exact ⟨by decide, by decide⟩⟩
  | 1, h => cases h; exact ⟨_, rfl, key _, can _, by intro z hz; cases hz⟩
  | 2, h => cases h; exact ⟨_, rfl, key _, can _, by intro z hz; cases hz⟩
  | 3, h => cases h; exact ⟨_, rfl, key _, can _, by intro z hz; rw [List.mem_singleton.mp hz]; exact ⟨by decide, by decide⟩⟩
  | 4, h => cases h; exact ⟨_, rfl, key _, can _, by intro z hz; simp only [Cmd.ints, Edit.ints, List.mem_cons, List.not_mem_nil, or_false] at hz; rcases hz with rfl | rfl <;> exact ⟨by decide, by decide⟩⟩
  | 5, h => cases h; exact ⟨_, rfl, rfl, trivial, by intro z hz; cases hz⟩
  | n + 6, h => simp [busyC] at h
theorem busy_texts : busyC.map Cmd.text = (["put 0 1", "undo", "turn", "cut 99", "resize 0 0", "run"] : List Str) := by decide +kernel
end
end TX
end
section
namespace TX
open PySem PySem.Spec PyProof.Rows L2 Evl W1 D1 MM LX
section
variable {kd : PKind} {st : Pg} {n : Str}
theorem note_now : (Pg.note kd n st).now = st.now := by unfold Pg.note; split <;> rfl
theorem note_wanted : (Pg.note kd n st).wanted = st.wanted := by unfold Pg.note; split <;> rfl
theorem note_states : (Pg.note kd n st).states = st.states := by unfold Pg.note; split <;> rfl
theorem note_done : (Pg.note kd n st).done = st.done := by unfold Pg.note; split <;> rfl
theorem note_busy : (Pg.note kd n st).busy = st.busy := by unfold Pg.note; split <;> rfl
theorem note_logl : (Pg.note kd n st).log.length ≤ st.log.length + 1 := by
  unfold Pg.note
  split
  · show (st.log ++ [_]).length ≤ _
    rw [List.length_append]
    simp
  · omega
theorem note_okP (h : st.ok kd) (hn : n.length ≤ 40) : (Pg.note kd n st).ok kd := by
  unfold Pg.note
  split
  · refine ⟨h.rows, h.len, h.last, h.few, h.fit, h.want, fun z hz => ?_⟩
    rcases List.mem_append.mp hz with hz | hz
    · exact h.log z hz
    · rw [List.mem_singleton.mp hz]
      refine ⟨hn, by show (0 : Int) ≤ (st.done.length : Nat); omega, ?_⟩
      have := h.few
      show ((st.done.length : Nat) : Int) ≤ 60
      omega
  · exact h
end
theorem eqv_strs : ∀ l : List Str, PyData.eqvAll (l.map .str) (l.map .str) = true
  | [] => by simp [PyData.eqvAll]
  | x :: l => by
    have := eqv_strs l
    simp [PyData.eqvAll, PyData.eqv, this]
theorem eqv_strl (l : List Str) : PyData.eqv (.list (l.map .str)) (.list (l.map .str)) = true := by
  simp only [PyData.eqv]
  exact eqv_strs l
theorem eqv_opt (o : Option Int) : PyData.eqv (optI o) (optI o) = true := by cases o <;> simp [optI, PyData.eqv]
theorem shaped_opt (o : Option Int) : SeqAt.shaped (optI o) = true := by
  cases o with
  | none => rfl
  | some i => exact shaped_int i
section
variable {P : Program} {w : World} {K : PySem.W.Frag} {mg : Str → Option Value} {base : Heap} {C Cc : Addr} {kd : PKind}
theorem dpa_bools {K : PySem.W.Frag} {H : Hp} {b : Bool} : ∀ n : Nat, DpAll K H (List.replicate n (.bl b)) (List.replicate n (.bool b))
  | 0 => .nil
  | n + 1 => by
    rw [List.replicate_succ, List.replicate_succ]
    exact .cons (.bl _) (dpa_bools n)
theorem dpa_strs {K : PySem.W.Frag} {H : Hp} : ∀ l : List Str, DpAll K H (l.map .str) (l.map .str)
  | [] => .nil
  | x :: l => .cons (.str x) (dpa_strs l)
def S_hear (K : PySem.W.Frag) (Cc C : Addr) (kd : PKind) : Sp := fun vs H Q _ => ∃ (a l0 l1 c p q nl el hl : Addr) (n : Nat) (k : Addr) (i : Nat) (e : Edit) (st st' st2 : Pg) (xs : List V) (v : V), vs = [.ref a, .ref p, .ref nl] ∧ Wd K Cc C kd a l0 l1 c p q H n k st st' ∧ n ≤ 700000 ∧ H nl = some (.lst [.ref c, .ref q, .ref el, .ref hl]) ∧
  H el = some (.lst xs) ∧ xs[i]? = some v ∧ Dp K H v (edD e) ∧ e.fit ∧ H hl = some (.lst (List.replicate i (.bl true))) ∧ i < 100 ∧ (¬ MW a l0 c p q el ∧ ¬ MW a l0 c p q hl ∧ hl ≠ l1) ∧ st.busy = true ∧ st'.busy = false ∧ st'.perform kd e = .ok st2 ∧ st.now = st2.now ∧ st.wanted = st2.wanted ∧ st.log.length ≤ 900 ∧ st'.log.length ≤ 900 ∧
  ∀ H' k' wd, FrM (fun b => MW a l0 c p q b ∨ b = hl) H H' → H k' = none → Wd K Cc C kd a l0 l1 c p q H' (n + 40) k' { st with wanted := some wd } { (Pg.note kd "run" st2) with wanted := some wd } → 1 ≤ wd ∧ wd ≤ 2000 → H' hl = some (.lst (List.replicate (i + 1) (.bl true))) → Q (.int (i + 1 : Nat)) H'
theorem hear_ok (Gc : CoC K Cc) (G : PgC K C) (B : Bi mg) (D : Df K mg "_law_hear" s__law_hear) (Gw : Gf P w K mg base 2 "_law_width_drawn" P__law_width_drawn (S_widthd K)) (Grow : Pf P w K mg base 1 C "row" (S_get K C kd r_row)) (Gwid : Pf P w K mg base 1 C "width" (S_get K C kd r_width))
    (Ge : Mf P w K mg base 13 Cc "execute" P_Console_execute (S_exec K Cc C kd)) (Gq : Gf P w K mg base 14 "_law_queries_right" P__law_queries_right (S_qr K Cc C kd)) (Gl : Gf P w K mg base 8 "_law_look" P__law_look (S_llook K C kd)) (Rr : Rf P w K mg base 9 C (S_run1 K C kd)) : Gf P w K mg base 15 "_law_hear" P__law_hear (S_hear K Cc C kd) := by
  refine D.gf 14 sc__law_hear (fun vs H Q E h => ?_) (fun _ _ _ _ _ _ us hl => match us, hl with | [_, _, _], _ => rfl) fun cdv A outer s H vs Q E hr h => ?_
  · obtain ⟨_, _, _, _, _, _, _, _, _, _, _, _, _, _, _, _, _, _, rfl, _⟩ := h
    rfl
  · obtain ⟨a, l0, l1, c, p, q, nl, el, hl, n, k, i, e, st, st', st2, xs, v, rfl, W, hn, hnl, hel, hv, hdv, hfit, hhl, hi, ⟨ne, nh, nh1⟩, hb, hb', ho, al1, al2, lg, lg', hQ⟩ := h
    have S := sc__law_hear
    obtain ⟨ok2, b2, w2, g2⟩ := Pg.perform_ok W.okq hfit ho
    -- console, other, edits, heard = notes
    refine bl_st (ps_asg (pos := _) pp (pg_lst (n := 4) rfl (pgs_cons (pg_name (i := 7) S.nd rfl (.inr rfl) (.inl rfl)) (pgs_cons (pg_name (i := 8) S.nd rfl (.inl rfl) (.inr rfl)) (pgs_cons (pg_name (i := 9) S.nd rfl (.inl rfl) (.inr rfl)) (pgs_cons (pg_name (i := 10) S.nd rfl (.inl rfl) (.inr rfl)) pgs_nil)))))) ?_
    show WpX _ _ _ _ _
    refine (v_var (v := .ref nl) 2 rfl (.inl rfl) rfl rfl rfl).go fun u H1 e1 hu => ?_
    refine ⟨nl, _, hu, sq_of (e1 _ _ hnl), rfl, .ref c, _, rfl, .ref q, _, rfl, .ref el, _, rfl, .ref hl, [], rfl, rfl, ?_⟩
    have W1 := W.ex e1
    have hel1 := e1 _ _ hel
    have hhl1 := e1 _ _ hhl
    -- other.run([edits[len(heard)]])
    refine bl_expr (w_methR (E := E0') (pg := q) G.cls Rr (hr.mono (by decide)) passF ((v_var (v := .ref q) 8 rfl (.inl rfl) rfl rfl rfl).go fun u H2 e2 hu => ?_))
    obtain ⟨dxq, v1, v2, v3, v4, v5, v6, hq2, _⟩ := id (W1.ex e2).qg
    refine ⟨hu, dxq, _, hq2, fs_no (by decide), ?_⟩
    refine wa_cons (w_lst (wa_cons ((v_ixL (i := (i : Nat)) (v_var (v := .ref el) 9 rfl (.inl rfl) rfl rfl rfl) (e2 _ _ hel1) (EvD.is (d_lenL (ds := List.replicate i (.bool true)) (by rfl) B.len (x_var 10 rfl (.inl rfl) rfl (.lst (sq_of (e2 _ _ hhl1)) (dpa_bools i)) rfl rfl)) (by rw [List.length_replicate])) (atI2 (n := i) rfl hv)).go fun y H3 e3 hy => wa_nil ⟨by simp, fun d hd => wa_nil ?_⟩)))
    subst hy
    have e13 := e1.trans (e2.trans e3)
    have eN : Ex H3 (upd H3 d (.lst [y])) := Ex.new hd
    have W3 := W.ex (e13.trans eN)
    have hdy : Dp K (upd H3 d (.lst [y])) (.ref d) (.list [edD e]) := .lst (sq_of upd_same) (.cons (dp_ex (e13.trans eN) hdv) .nil)
    have F3 : FrM (MW a l0 c p q) H (upd H3 d (.lst [y])) := FrM.of (e13.trans eN)
    generalize upd H3 d (.lst [y]) = H4 at W3 hdy F3
    refine ⟨q, _, e, st', st2, rfl, W3.qg, W.okq, hb', by omega, hdy, hfit, ho, fun H5 f5 hq5 => ?_⟩
    have okn : (Pg.note kd "run" st2).ok kd := note_okP ok2 (by decide)
    have W5 := W3.setQ f5 hq5 okn
    have F5 : FrM (MW a l0 c p q) H H5 := F3.trans f5.wq
    have al : Alike st (Pg.note kd "run" st2) := ⟨by rw [note_now]; exact al1, by rw [note_wanted]; exact al2⟩
    have hlogn : (Pg.note kd "run" st2).log.length ≤ 901 := by have := note_logl (kd := kd) (n := "run") (st := st2); rw [g2] at this; omega
    generalize Pg.note kd "run" st2 = sn at W5 okn al hQ hlogn
    -- found
    refine s_lcW (own := [("_law_line_here", 11)]) (j := 11) (xs := busyC.map fun m => .str m.text) 3 rfl rfl rfl S.nd ⟨fun H6 e6 Q2 k2 => ?_⟩ (blkOk_by (N := N__law_hear) (sc := defScope s__law_hear) (by decide +kernel)) rfl rfl (fun _ => rfl)
      (fun l d j H' => ∃ k', ¬ MW a l0 c p q d ∧ ¬ MW a l0 c p q l ∧ d ≠ l ∧ H5 d = none ∧ FrM (MW a l0 c p q) H5 H' ∧ Wd K Cc C kd a l0 l1 c p q H' n k' st sn ∧ H' d = some (.lst ((busyT.take j).map .str)) ∧ H' l = some (.lst (busyC.map fun m => .str m.text))) (fun H6 l d e6 hl6 hl0 hd => ?_) (fun l d j H' h => ?_) ?_ (fun l d H' h => ?_)
    · refine w_lst (wa_cons ((d_str (x := "put 0 1")).go fun y1 H7 e7 h1 => wa_cons ((d_str (x := "undo")).go fun y2 H8 e8 h2 => wa_cons ((d_str (x := "turn")).go fun y3 H9 e9 h3 => wa_cons ((d_str (x := "cut 99")).go fun y4 H10 e10 h4 => wa_cons ((d_str (x := "resize 0 0")).go fun y5 H11 e11 h5 => wa_cons ((d_str (x := "run")).go fun y6 H12 e12 h6 => wa_nil ⟨by simp, fun d hd => ?_⟩)))))))
      cases h1; cases h2; cases h3; cases h4; cases h5; cases h6
      have e612 := e7.trans (e8.trans (e9.trans (e10.trans (e11.trans e12))))
      refine k2 _ _ (e612.trans (Ex.new hd)) ⟨d, rfl, fresh_back (e6.trans e612) hd, ?_⟩
      rw [upd_same]
      have : (busyC.map fun m => V.str m.text) = (busyC.map Cmd.text).map .str := by rw [List.map_map]; rfl
      rw [this, busy_texts]
      rfl
    · have eN : Ex H6 (upd H6 d (.lst [])) := Ex.new hd
      exact ⟨k, (W5.ex e6).free hd, W5.free hl0, fun z => (by rw [z, hl6] at hd; cases hd), fresh_back e6 hd, FrM.of (e6.trans eN), W5.ex (e6.trans eN), upd_same, eN _ _ hl6⟩
    · obtain ⟨_, _, _, _, _, _, _, _, h⟩ := h
      exact h
    · intro s0 H0 C0 cl0 fp0 l d j v H' hv hP
      obtain ⟨k', nd, nl', ndl, hd0, fP, WP, hd, hl'⟩ := hP
      rw [List.getElem?_map] at hv
      cases hm : busyC[j]? with
      | none => rw [hm] at hv; cases hv
      | some m =>
        rw [hm] at hv
        cases hv
        obtain ⟨t, ht, hc, hcan, hsm⟩ := busy_cmd (kd := kd) hb hm
        refine w_meth (E := E0') (p := c) Gc.cls Ge (hr.mono (by decide)) passF ((v_var (v := .ref c) 7 rfl (by walk_at "vis") rfl rfl rfl).go fun u H7 e7 hu => ?_)
        obtain ⟨dxc, ds, hc7, _⟩ := id (WP.ex e7).co
        refine ⟨hu, dxc, _, hc7, rfl, wa_cons ((v_var (v := .str m.text) 11 rfl (by walk_at "vis") rfl rfl rfl).go fun y H8 e8 hy => wa_nil ?_)⟩
        subst hy
        have W8 := WP.ex (e7.trans e8)
        refine ⟨c, p, k', st, _, m, rfl, W8.co, W8.pg, W.okp, by omega, .str _, hsm, hcan, fun H9 l' f9 hl0 hp9 hco9 => ?_⟩
        rw [hc] at hp9 ⊢
        have F9 : FrM (MW a l0 c p q) H' H9 := (FrM.of (e7.trans e8)).trans f9.wc
        have W9 := W8.told f9 hl0 hp9 hco9 W.okp
        have hj : j < busyT.length := by
          rw [List.getElem?_eq_some_iff] at ht
          exact ht.1
        have nkd : l' ≠ d := fun z => by
          rw [z, (e7.trans e8) _ _ hd] at hl0
          cases hl0
        have hd9 : H9 d = some (.lst ((busyT.take j).map .str)) := F9.keep hd nd
        have W10 : Wd K Cc C kd a l0 l1 c p q (upd H9 d (.lst ((busyT.take j).map .str ++ [.str t]))) n l' st sn :=
          W9.away (M := (· = d)) (FrM.upd hd9 trivial rfl) (fun z => nd (by rw [← z]; exact .inl (.inl rfl))) (fun z => nd (by rw [← z]; exact .inl (.inr rfl))) (fun z => by
            obtain ⟨ns, ms, t, _, _, e3, _⟩ := W5.sa.ex
            rw [← z, e3] at hd0; cases hd0) (fun z => nd (by rw [← z]; exact MW.atC)) nkd (fun z => nd (by rw [← z]; exact MW.atP)) (fun z => nd (by rw [← z]; exact MW.atQ))
        refine ⟨_, hd9, ?_, l', nd, nl', ndl, hd0, (fP.trans F9).new hd0, W10, ?_, ?_⟩
        · rw [List.length_map, List.length_take]
          have : busyT.length = 6 := rfl
          omega
        · rw [upd_same, show (j + 1 : Nat) = j + 1 from rfl, List.take_add_one, ht]
          simp
        · rw [upd_ne (Ne.symm ndl)]
          exact F9.keep hl' nl'
    · obtain ⟨k', nd, nl', ndl, hd0, fP, WP, hd, _⟩ := h
      have hfd : Dp K H' (.ref d) (.list (busyT.map .str)) := .lst (sq_of hd) (by
        rw [List.take_of_length_le (by simp [busyT, busyC])]
        exact dpa_strs busyT)
      have F6 : FrM (MW a l0 c p q) H H' := F5.trans fP
      clear hd hd0 fP W5 F5
      -- right
      refine bl_set 4 S.nd rfl (.inl rfl) (w_andT ?_ fun H7 e7 => w_last (w_call Gq hr (by rfl) (E := E0') passF (wa_cons ((v_var (v := .ref a) 0 rfl (by walk_at "vis") rfl rfl rfl).go fun y1 H8 e8 h1 => wa_cons ((v_var (v := .ref c) 7 rfl (by walk_at "vis") rfl rfl rfl).go fun y2 H9 e9 h2 => wa_cons ((v_var (v := .ref q) 8 rfl (by walk_at "vis") rfl rfl rfl).go fun y3 H10 e10 h3 => wa_nil ?_))))))
      · refine EvD.is (d_eq (r64 hr) (x_var (d := .list (busyT.map .str)) 3 rfl (by walk_at "vis") rfl hfd rfl rfl) (EvN.toD (n_catL (EvN.toL (n_repL (n := 5) (n_lst (ds := [.str "error Busy"]) (a_cons d_str a_nil) (by simp)) d_int (by omega) (by simp))) (n_lst (ds := [.str "unknown command"]) (a_cons d_str a_nil) (by simp)) (by simp))) (by decide +kernel) (by decide +kernel)) ?_
        exact congrArg PyData.bool (eqv_strl busyT)
      subst h1 h2 h3
      have e710 := e7.trans (e8.trans (e9.trans e10))
      refine ⟨a, l0, l1, c, p, q, n, k', st, sn, rfl, WP.ex e710, by omega, al, by omega, fun H11 k11 f11 W11 => ?_⟩
      have F11 : FrM (MW a l0 c p q) H H11 := F6.trans ((FrM.of e710).trans f11)
      -- width
      refine bl_set 5 S.nd rfl (.inl rfl) (w_call Gw (hr.mono (by decide)) (by rfl) (E := E0') passF (wa_cons ((v_var (v := .ref a) 0 rfl (by walk_at "vis") rfl rfl rfl).go fun y1 H12 e12 h1 => wa_cons ((d_prop (p := q) G.cls Grow (hr.mono (by decide)) (v_var 8 rfl (by walk_at "vis") rfl rfl rfl) ((W11.ex e12).qg) W11.okq).go fun y2 H13 e13 h2 => wa_nil ?_))))
      subst h1
      have W13 := W11.ex (e12.trans e13)
      refine ⟨a, l0, l1, n + 20, y2, sn.now, rfl, W13.sa, by omega, h2, W13.okq.now.1, fun wd H14 wd0 wd1 f14 s14 => ?_⟩
      have W14 := W13.drawn f14 s14
      have F14 : FrM (MW a l0 c p q) H H14 := F11.trans ((FrM.of (e12.trans e13)).trans f14.s)
      have hwd : 1 ≤ wd ∧ wd ≤ 2000 := ⟨wd0, wd1⟩
      -- due
      refine bl_set 6 S.nd rfl (.inl rfl) (w_call Gl (hr.mono (by decide)) (by rfl) (E := E0') passF (wa_cons ((v_var (v := .ref q) 8 rfl (by walk_at "vis") rfl rfl rfl).go fun y1 H15 e15 h1 => wa_cons ((v_var (v := .int wd) 5 rfl (by walk_at "vis") rfl rfl rfl).go fun y2 H16 e16 h2 => wa_nil ?_))))
      subst h1 h2
      have W16 := W14.ex (e15.trans e16)
      refine ⟨q, sn, wd, rfl, W16.qg, W16.okq, fun H17 f17 hq17 => ?_⟩
      rw [look_yes hwd] at hq17 ⊢
      have okqw : Pg.ok kd { sn with wanted := some wd } := want_ok (kd := kd) G W16.okq (fun w hw => by cases hw; exact hwd)
      have W17 := W16.setQ f17 hq17 okqw
      have F17 : FrM (MW a l0 c p q) H H17 := F14.trans ((FrM.of (e15.trans e16)).trans f17.wq)
      -- right again
      refine bl_set 4 S.nd rfl (.inl rfl) (w_andT (x_var (d := .bool true) 4 rfl (by walk_at "vis") rfl (.bl _) rfl rfl) fun H18 e18 => w_andW (.of (pe_cmpR op_eq pp pp (nomark _)) ?_))
      show WpX _ _ _ _ _
      refine w_meth (E := E0') (p := c) Gc.cls Ge (hr.mono (by decide)) passF ((v_var (v := .ref c) 7 rfl (by walk_at "vis") rfl rfl rfl).go fun u H19 e19 hu => ?_)
      obtain ⟨dxc, ds, hc19, _⟩ := id (W17.ex (e18.trans e19)).co
      refine ⟨hu, dxc, _, hc19, rfl, wa_cons ((d_addS (i := "look ") (j := sI wd) d_str (d_strI (by rfl) B.str (x_var (d := .int wd) 5 rfl (by walk_at "vis") rfl (.int _) rfl rfl) (i2000 (by omega) (by omega))) ?_).go fun y H20 e20 hy => wa_nil ?_)⟩
      · have := sI_len (i := wd) (by omega) (by omega)
        have : ("look " : Str).length = 5 := by decide +kernel
        omega
      have e1720 := e18.trans (e19.trans e20)
      have W20 := W17.ex e1720
      refine ⟨c, p, k11, st, y, .qy (.look wd), rfl, W20.co, W20.pg, W.okp, by omega, by rw [look_text]; exact hy, fun z hz => ?_, trivial, fun H21 l' f21 hl0 hp21 hco21 => ?_⟩
      · rw [List.mem_singleton.mp hz]
        exact ⟨by omega, by omega⟩
      rw [look_yes hwd] at hp21 ⊢
      have okpw : Pg.ok kd { st with wanted := some wd } := want_ok (kd := kd) G W.okp (fun w hw => by cases hw; exact hwd)
      have W21 := W20.told f21 hl0 hp21 hco21 okpw
      have F21 : FrM (MW a l0 c p q) H H21 := F17.trans ((FrM.of e1720).trans f21.wc)
      have hfr : H l' = none := by
        cases hh : H l' with
        | none => rfl
        | some o =>
          rcases (F17.trans (FrM.of e1720)) l' o hh with z | z
          · rw [z] at hl0; cases hl0
          · exact absurd z.1 (W20.free hl0)
      show WpX _ _ _ _ _
      have elines : linesPg { st with wanted := some wd } = linesPg { sn with wanted := some wd } := by unfold linesPg; rw [show ({ st with wanted := some wd } : Pg).now = st.now from rfl, al.now]
      refine (x_var (d := .str (linesText (linesPg { sn with wanted := some wd }))) 6 rfl (by walk_at "vis") rfl (.str _) rfl rfl : EvD _ _ _ _ _).go fun y H22 e22 hy => ?_
      cases hy
      refine ⟨rfl, by rw [dec_str, elines]; simp, ?_⟩
      have W22 := W21.ex e22
      refine w_last ((EvD.is (d_eq (r64 hr) (d_prop (p := p) G.cls Gwid (hr.mono (by decide)) (v_var 1 rfl (by walk_at "vis") rfl rfl rfl) W22.pg okpw) (d_prop (p := q) G.cls Gwid (hr.mono (by decide)) (v_var 8 rfl (by walk_at "vis") rfl rfl rfl) W22.qg okqw) (shaped_opt _) (shaped_opt _)) (d1 := .bool true) ?_).go fun y H23 e23 hy => ?_)
      · exact congrArg PyData.bool (eqv_opt (some wd))
      cases hy
      have F23 : FrM (MW a l0 c p q) H H23 := F21.trans (FrM.of (e22.trans e23))
      have W23 := W22.ex e23
      have hhl23 : H23 hl = some (.lst (List.replicate i (.bl true))) := F23.keep hhl nh
      -- heard.append(right)
      refine bl_app (i := 10) (l := hl) (xs := List.replicate i (.bl true)) rfl (by walk_at "vis") rfl hhl23 (v_var (v := .bl true) 4 rfl (by walk_at "vis") rfl rfl rfl) (by rw [List.length_replicate]; omega) fun y H24 e24 hy => ?_
      subst hy
      have hhl24 := e24 _ _ hhl23
      have hrep : List.replicate i (V.bl true) ++ [.bl true] = List.replicate (i + 1) (.bl true) := by rw [List.replicate_succ']
      rw [hrep]
      have Fu : FrM (· = hl) H24 (upd H24 hl (.lst (List.replicate (i + 1) (.bl true)))) := FrM.upd hhl24 trivial rfl
      have nkl : l' ≠ hl := fun z => by rw [z, hhl] at hfr; cases hfr
      have W25 := (W23.ex e24).away Fu (fun z => nh (by rw [← z]; exact .inl (.inl rfl))) (fun z => nh (by rw [← z]; exact .inl (.inr rfl))) (fun z => nh1 z.symm) (fun z => nh (by rw [← z]; exact MW.atC)) nkl (fun z => nh (by rw [← z]; exact MW.atP)) (fun z => nh (by rw [← z]; exact MW.atQ))
      have F25 : FrM (fun b => MW a l0 c p q b ∨ b = hl) H (upd H24 hl (.lst (List.replicate (i + 1) (.bl true)))) := (F23.mono fun _ z => .inl z).trans ((FrM.of e24).trans (Fu.mono fun _ z => .inr z))
      have h25 : (upd H24 hl (.lst (List.replicate (i + 1) (.bl true)))) hl = some (.lst (List.replicate (i + 1) (.bl true))) := upd_same
      generalize upd H24 hl (.lst (List.replicate (i + 1) (.bl true))) = H25 at W25 F25 h25
      refine bl_ret ((EvD.is (d_lenL (ds := List.replicate (i + 1) (.bool true)) (by rfl) B.len (x_var 10 rfl (by walk_at "vis") rfl (.lst (sq_of h25) (dpa_bools (i + 1))) rfl rfl)) (d1 := .int (i + 1 : Nat)) (by rw [List.length_replicate])).go fun y H26 e26 hy => ?_)
      cases hy
      exact hQ H26 l' wd (F25.trans (FrM.of e26)) hfr ((W25.ex e26).mono (by omega)) hwd (e26 _ _ h25)
end
end TX
end
section
namespace LX
open PySem PySem.Spec PyProof.Rows L2 LamX NdefX
theorem cb_lamF {P : Program} {w : World} {K : PySem.W.Frag} {mg : Str → Option Value} {base : Heap} {k : Nat} {f c : Addr} {q : Str} {params : Arguments} {body : Expr} {scope : Scope} {cl : List (Str × Addr)} {N ps fr : List Str} {ws : List (Option V)} {cs : List (Addr × Obj)} {sp : Sp} {te : XK → TE}
    (S : NScope N ps fr scope) (C : CapsAt cl fr ws cs) (hb : ∀ (pm ctv : Value) (us : List Value), us.length = ps.length → bindArgs (PySem.W.kla_fn "<lambda>" q params body scope cl pm (.ref c) ctv) ⟨us, []⟩ = pure (ps.zip us)) (len : ∀ vs H Q E, sp vs H Q E → vs.length = ps.length)
    (hbody : ∀ (A : Around) (outer : List Env) (s : Shared) (H : Hp) (vs : List V) (Q : VK), Room k (A.deeper (envF (lamF q scope cl c) f s.heap.objs.size)) → sp vs H Q (fun _ _ _ => False) → ∃ te, PE (ncx (L2N.CX P w) P w K mg base N (lamF q scope cl c) f A outer s H fun _ _ _ => False) body te ∧ te (startF N vs ws) H Q) :
    CbOk P w K mg base (k + 1) f (LfO f q params body scope cl c) (fun vs H Q E => H c = some (CodeO c q) ∧ Held cs H ∧ sp vs (hide cs H) (fun v H' => Free cs H' → Q v (hold cs H')) fun _ _ _ => False) := by
  refine ⟨fun H h hok e => ?_, fun A outer s H us vs Q E hr e0 hf r hsp => ?_⟩
  · obtain ⟨pm, ctv, ho⟩ := lfO_at hok e
    exact ⟨_, _, _, _, ho⟩
  obtain ⟨hc, hh, hsp⟩ := hsp
  have hl := len _ _ _ _ hsp
  have st : Stand cs s.heap := hh.stand e0.hok
  have e1 := env0_hide e0 hh
  have lim : s.heap.NoLimit := e0.mod.nolimit.keeps fun b o e => (e0.bs b o e).1
  obtain ⟨pm, ctv, ho⟩ := lfO_at e0.hok hf
  refine PySem.W.kla_callFunE hr.depth ho rfl S.co S.gen rfl (codeO_at e0.hok hc) ?_
  rw [hb pm ctv us (by rw [← r.length]; exact hl)]
  refine wpAny_pure (wpAny_newFunctionEnv S.nocell (fun ⟨n, _⟩ hy => S.par n (List.of_mem_zip hy).1) (fun h₁ hns hsb => ⟨lim.fresh _ hsb, ?_⟩) S.kind)
  have kp : ∀ b o, s.heap.get? b = some o → h₁.get? b = some o := fun b o e => hsb.extBut b o (Nat.ne_of_lt (Heap.lt_size e)) (Heap.get?_push_of_some _ e)
  obtain ⟨te, ht, hq⟩ := hbody A outer s (hide cs H) vs _ (hr.deeper _) hsp
  have I := inv_startN (CX := L2N.CX P w) (F := lamF q scope cl c) (f := f) (E := fun _ _ _ => False) (tk := s.toks + (ps.zip us).length) S hr.hd e1 hl r (C.cells (H := H) st) hns kp
  show codeAny _ _ (.expr body (envF (lamF q scope cl c) f s.heap.objs.size)) _ _
  refine PySem.W.kla_codeExpr (wpAny_mono (ht.run [] _ (startF N vs ws) (hide cs H) _ I hq) (fun u s' hs => ?_) fun e s' hs => ?_)
  · obtain ⟨v, H', J, rv, hv⟩ := hs
    obtain ⟨k1, k2, k3⟩ := un_hide J.base hh st e0.frf
    exact ⟨v, hold cs H', J.os, J.bare, k3, hok_hold J.hok k1 k2, rv, hv k1⟩
  · have z : ∀ e'' s'', ¬ L2N.CX P w outer (hide cs H) s (fun _ _ _ => False) e'' s'' := fun e'' s'' ⟨_, _, _, _, _, _, _, _, _, _, _, _, y⟩ => y
    exact wpAny_mono hs (fun _ s'' y => absurd y (z _ _)) fun _ s'' y => absurd y (z _ _)
end LX
namespace TX
open PySem PySem.Spec PyProof.Rows L2 Evl W1 D1 MM LX
abbrev lamE : Expr := match defBody s__law_busy_right with
  | _ :: .Expr (.Call _ _ (k :: _) _) _ :: _ => k.value
  | _ => .Constant .none 0 ⟨0, 0, 0, 0⟩
abbrev lamS : Scope := match lamE with
  | .Lambda _ _ s _ => s
  | _ => defScope s__law_busy_right
abbrev lamB : Expr := match lamE with
  | .Lambda _ b _ _ => b
  | e => e
abbrev lamA : Arguments := match lamE with
  | .Lambda a _ _ _ => a
  | _ => defArgs s__law_busy_right
abbrev NL : List Str := ["_law_one", "_law_stream_here", "_law_console", "_law_other", "_law_edits", "_law_heard"]
abbrev FL : List Str := ["_law_stream_here", "_law_console", "_law_other", "_law_edits", "_law_heard"]
theorem nsc_lam : NdefX.NScope NL ["_law_one"] FL lamS := NdefX.nscope_by (by decide +kernel)
theorem lam_free : ∀ y ∈ lamS.names, y.2 = .free → (defScope s__law_busy_right).names.lookup y.1 = some .cell ∨ (defScope s__law_busy_right).names.lookup y.1 = some .free := by decide +kernel
theorem lam_fr : ∀ y ∈ FL, (y, NameKind.free) ∈ lamS.names := by decide +kernel
/-! ### frames and held cells -/
section
variable {cs : List (Addr × Obj)} {H H' : Hp} {M : Addr → Prop}
theorem Free.ex (x : Free cs H) : Ex H (hold cs H) := fun b u e => by rw [hold_out (x.off e)]; exact e
theorem hold_held (cs : List (Addr × Obj)) (H : Hp) : Held cs (hold cs H) := fun _ _ e => hold_in e
theorem hide_frm (x : Held cs H) : FrM (fun b => cs.lookup b ≠ none) H (hide cs H) := fun b u e => by
  cases hl : cs.lookup b with
  | none => exact .inl (by rw [hide_out hl]; exact e)
  | some o =>
    rw [x b o hl] at e
    cases e
    exact .inr ⟨by show List.lookup b cs ≠ none; rw [hl]; simp, trivial⟩
theorem frm_hold (x : Held cs H) (f : FrM M (hide cs H) H') : FrM M H (hold cs H') := fun b u e => by
  cases hl : cs.lookup b with
  | some o =>
    rw [x b o hl] at e
    cases e
    exact .inl (hold_in hl)
  | none =>
    rw [hold_out hl]
    exact f b u (by rw [hide_out hl]; exact e)
theorem Held.frm (x : Held cs H) (f : FrM M H H') (h : ∀ b, M b → cs.lookup b = none) : Held cs H' := fun b o e => (f b _ (x b o e)).elim id fun z => by
  have := h b z.1
  rw [e] at this
  cases this
theorem ext_dp {K : PySem.W.Frag} (f : LamX.ExtN H H') : Tu K H H' := fun a xs h => by
  rcases h with h | h
  · rcases h with h | ⟨o, h⟩
    · exact .inl (.inl (f a _ h fun ps z => nomatch z))
    · exact .inl (.inr ⟨o, f a _ h fun ps z => nomatch z⟩)
  · exact .inr h
end
section
variable {K : PySem.W.Frag} {Cc C : Addr} {kd : PKind} {a l0 l1 c p q k : Addr} {H H' : Hp} {n m : Nat} {st st' st2 : Pg} {M : Addr → Prop}
theorem PgAt.ext (h : PgAt K H p C kd st) (f : LamX.ExtN H H') : PgAt K H' p C kd st := by
  obtain ⟨dx, v1, v2, v3, v4, v5, v6, h1, h2⟩ := h
  have t : Tu K H H' := ext_dp f
  exact ⟨dx, v1, v2, v3, v4, v5, v6, f _ _ h1 (fun ps z => nomatch z), dp_tu t (noL_row _) h2.now, dp_tu t (noL_states _) h2.states, dp_tu t (noL_done _) h2.done, dp_tu t (noL_opt _) h2.wanted, dp_tu t rfl h2.busy, dp_tu t (noL_log _) h2.log⟩
theorem CoAt.ext (h : CoAt K H c Cc p k) (f : LamX.ExtN H H') : CoAt K H' c Cc p k := by
  obtain ⟨dx, ds, h1, ⟨xs, h2, h3⟩, h4, h5⟩ := h
  exact ⟨dx, ds, f _ _ h1 (fun ps z => nomatch z), ⟨xs, f _ _ h2 (fun ps z => nomatch z), dpa_tu (ext_dp f) h5 h3⟩, h4, h5⟩
theorem StAt.ext (h : StAt H a l0 l1 n) (f : LamX.ExtN H H') : StAt H' a l0 l1 n := by
  obtain ⟨ns, ms, t, e1, e2, e3, r⟩ := h.ex
  exact ⟨⟨ns, ms, t, f _ _ e1 (fun ps z => nomatch z), f _ _ e2 (fun ps z => nomatch z), f _ _ e3 (fun ps z => nomatch z), r⟩, h.d01, h.da0, h.da1⟩
theorem Wd.ext (w : Wd K Cc C kd a l0 l1 c p q H n k st st') (f : LamX.ExtN H H') : Wd K Cc C kd a l0 l1 c p q H' n k st st' := ⟨w.sa.ext f, w.co.ext f, w.pg.ext f, w.qg.ext f, w.pq, w.ka, w.k0, w.k1, w.okp, w.okq⟩
/-- what stands in the world is not held fast -/
theorem Wd.off (w : Wd K Cc C kd a l0 l1 c p q H n k st st') {cs : List (Addr × Obj)} (x : Held cs H) : (∀ b, MW a l0 c p q b → cs.lookup b = none) ∧ cs.lookup l1 = none ∧ cs.lookup k = none := by
  obtain ⟨ns, ms, t, e1, e2, e3, r⟩ := w.sa.ex
  obtain ⟨_, _, hc⟩ := co_ins w.co
  obtain ⟨_, _, hp⟩ := pg_ins w.pg
  obtain ⟨_, _, hq⟩ := pg_ins w.qg
  obtain ⟨_, _, _, ⟨xs, hk, _⟩, _⟩ := w.co
  refine ⟨fun b z => ?_, x.off e3 (fun o z => nomatch z), x.off hk (fun o z => nomatch z)⟩
  rcases z with (z | z) | z | z | z
  · rw [z]; exact x.off e1 (fun o z => nomatch z)
  · rw [z]; exact x.off e2 (fun o z => nomatch z)
  · rw [z]; exact x.off hc (fun o z => nomatch z)
  · rw [z]; exact x.off hp (fun o z => nomatch z)
  · rw [z]; exact x.off hq (fun o z => nomatch z)
theorem Wd.hide (w : Wd K Cc C kd a l0 l1 c p q H n k st st') {cs : List (Addr × Obj)} (x : Held cs H) : Wd K Cc C kd a l0 l1 c p q (LX.hide cs H) n k st st' := by
  obtain ⟨h1, h2, h3⟩ := w.off x
  exact w.away (hide_frm x) (fun z => z (h1 _ (.inl (.inl rfl)))) (fun z => z (h1 _ (.inl (.inr rfl)))) (fun z => z h2) (fun z => z (h1 _ MW.atC)) (fun z => z h3) (fun z => z (h1 _ MW.atP)) (fun z => z (h1 _ MW.atQ))
/-- the two pages hold the same -/
structure Twin (st st' : Pg) : Prop where
  now : st.now = st'.now
  states : st.states = st'.states
  done : st.done = st'.done
  wanted : st.wanted = st'.wanted
  busy : st.busy = false
  busy' : st'.busy = false
theorem Twin.perform (t : Twin st st') {e : Edit} {s1 : Pg} (h : st.perform kd e = .ok s1) : ∃ s2, st'.perform kd e = .ok s2 ∧ Twin s1 s2 ∧ s2.log = st'.log ∧ s1.log = st.log ∧ s1.done = st.done ++ [e] := by
  unfold Pg.perform at h ⊢
  rw [← t.done, ← t.now, ← t.states]
  split at h
  · cases h
  · rename_i hd
    rw [if_neg hd]
    split at h
    · cases h
    · rename_i r hr
      split at h
      · rename_i hf
        cases h
        refine ⟨_, if_pos hf, ⟨rfl, rfl, rfl, t.wanted, t.busy, t.busy'⟩, rfl, rfl, rfl⟩
      · cases h
/-- the two edits of the batch -/
def busyE : List Edit := [.turn, .resize 0 1]
theorem busyE_ok (ok : st.ok kd) (hd : st.done.length ≤ 50) {n : Nat} {e : Edit} (he : busyE[n]? = some e) : e.fit ∧ ∃ s1, st.perform kd e = .ok s1 := by
  have hr := ok.now.1
  have hk := ok.now.2
  match n, he with
  | 0, he =>
    cases he
    refine ⟨trivial, { st with now := st.now.reverse, states := st.states ++ [st.now.reverse], done := st.done ++ [.turn] }, ?_⟩
    unfold Pg.perform
    rw [if_neg (by omega)]
    show (if fitsK kd st.now.reverse then _ else _) = _
    exact if_pos (fun h x hx => hk h x (List.mem_reverse.mp hx))
  | 1, he =>
    cases he
    have hl : 0 < st.now.length := by
      have := hr.pos
      omega
    refine ⟨⟨⟨by decide, by decide⟩, by decide, by decide⟩, { st with now := st.now.take 0 ++ 1 :: st.now.drop 1, states := st.states ++ [st.now.take 0 ++ 1 :: st.now.drop 1], done := st.done ++ [.resize 0 1] }, ?_⟩
    unfold Pg.perform
    rw [if_neg (by omega)]
    have z : editR st.now (.resize 0 1) = .ok (st.now.take 0 ++ 1 :: st.now.drop 1) := if_pos ⟨by decide, by omega⟩
    rw [z]
    show (if fitsK kd (st.now.take 0 ++ 1 :: st.now.drop 1) then _ else _) = _
    refine if_pos (fun h x hx => ?_)
    rw [List.take_zero, List.nil_append] at hx
    rcases List.mem_cons.mp hx with rfl | hx
    · decide
    · exact hk h x (List.mem_of_mem_drop hx)
  | n + 2, he => simp [busyE] at he
end
end TX
end
section
namespace TX
open PySem PySem.Spec PyProof.Rows L2 Evl W1 D1 MM LX
section
variable {P : Program} {w : World} {K : PySem.W.Frag} {mg : Str → Option Value} {base : Heap} {C Cc : Addr} {kd : PKind}
/-- what the lambda does -/
def S_lam (K : PySem.W.Frag) (Cc C : Addr) (kd : PKind) (a c q el hl : Addr) : Sp := fun vs H Q _ => ∃ p : Addr, vs = [.ref p] ∧ ∀ nl H1, Ex H H1 → H1 nl = some (.lst [.ref c, .ref q, .ref el, .ref hl]) → S_hear K Cc C kd [.ref a, .ref p, .ref nl] H1 Q E0'
theorem lam_cb {f cc : Addr} {qn : Str} {cl : List (Str × Addr)} {cs : List (Addr × Obj)} {a c q el hl : Addr} (Gh : Gf P w K mg base 15 "_law_hear" P__law_hear (S_hear K Cc C kd)) (Cp : CapsAt cl FL [some (.ref a), some (.ref c), some (.ref q), some (.ref el), some (.ref hl)] cs) :
    CbOk P w K mg base 16 f (LfO f qn lamA lamB lamS cl cc) (fun vs H Q E => H cc = some (LamX.CodeO cc qn) ∧ Held cs H ∧ S_lam K Cc C kd a c q el hl vs (hide cs H) (fun v H' => Free cs H' → Q v (hold cs H')) fun _ _ _ => False) := by
  refine cb_lamF (te := fun _ _ _ _ => True) (N := NL) nsc_lam Cp (fun pm ctv us hl => match us, hl with | [_], _ => rfl) (fun vs H Q E h => ?_) fun A outer s H vs Q hr h => ⟨_, pp, ?_⟩
  · obtain ⟨_, rfl, _⟩ := h
    rfl
  · obtain ⟨p, rfl, h⟩ := h
    show WpX _ _ _ _ _
    refine w_call Gh hr (by rfl) (E := E0') passF (wa_cons ((v_var (v := .ref a) 1 rfl (by walk_at "vis") rfl rfl rfl).go fun y1 H1 e1 h1 => wa_cons ((v_var (v := .ref p) 0 rfl (by walk_at "vis") rfl rfl rfl).go fun y2 H2 e2 h2 => wa_cons (w_lst (wa_cons ((v_var (v := .ref c) 2 rfl (by walk_at "vis") rfl rfl rfl).go fun y3 H3 e3 h3 => wa_cons ((v_var (v := .ref q) 3 rfl (by walk_at "vis") rfl rfl rfl).go fun y4 H4 e4 h4 => wa_cons ((v_var (v := .ref el) 4 rfl (by walk_at "vis") rfl rfl rfl).go fun y5 H5 e5 h5 => wa_cons ((v_var (v := .ref hl) 5 rfl (by walk_at "vis") rfl rfl rfl).go fun y6 H6 e6 h6 => wa_nil ⟨by simp, fun nl hnl => wa_nil ?_⟩)))))))))
    subst h1 h2 h3 h4 h5 h6
    exact h nl _ (e1.trans (e2.trans (e3.trans (e4.trans (e5.trans (e6.trans (Ex.new hnl))))))) upd_same
/-- the name that the lambda's code object bears -/
abbrev qL : Str := (envOfC "_law_busy_right" (defScope s__law_busy_right) 0 0 .none).qual ++ "<lambda>"
/-- a def whose code object is known, with the table of its lambdas -/
structure DfC (K : PySem.W.Frag) (mg : Str → Option Value) (base : Heap) (x : Str) (st : Stmt) (cb PT : Addr) : Prop where
  ex : ∃ oc od dV kV doc pm an ct osl, K.lookup (He.ga K x) = some ⟨oc, od, .func (PySem.W.fnOf x x (defArgs st) (defBody st) (defScope st) dV kV doc pm an (.ref cb) ct), osl⟩ ∧ PySem.W.codeIn K (.ref cb) x = true ∧ FunD K x x (defArgs st) (defBody st) (defScope st) [] [] (He.ga K x) (PySem.W.fnOf x x (defArgs st) (defBody st) (defScope st) dV kV doc pm an (.ref cb) ct)
  m : mg x = some (.ref (He.ga K x))
  tab : LamX.TabB base mg cb PT
def S_busy (K : PySem.W.Frag) (Cc C : Addr) (kd : PKind) (PT : Addr) : Sp := fun vs H Q _ => ∃ a l0 l1 c p q n k st, vs = [.ref a, .ref c, .ref p, .ref q] ∧ Wd K Cc C kd a l0 l1 c p q H n k st st ∧ n ≤ 600000 ∧ st.busy = false ∧ st.done.length ≤ 40 ∧ st.log.length ≤ 100 ∧ LamX.TabS H PT qL ∧
  ∀ H' st1 st2, PgAt K H' p C kd st1 → PgAt K H' q C kd st2 → st1.ok kd → st2.ok kd → st1.now = st2.now → st1.done = st2.done → Q (.bl true) H'
theorem busy_ok (Gc : CoC K Cc) (G : PgC K C) (B : Bi mg) {cb PT : Addr} (D : DfC K mg base "_law_busy_right" s__law_busy_right cb PT) (Gh : Gf P w K mg base 15 "_law_hear" P__law_hear (S_hear K Cc C kd)) (Gwid : Pf P w K mg base 1 C "width" (S_get K C kd r_width))
    (Rr : Rf P w K mg base 19 C (S_runL (S_stepC P w K mg base 16 C kd) K C kd)) : Gf P w K mg base 20 "_law_busy_right" P__law_busy_right (S_busy K Cc C kd PT) := by
  obtain ⟨oc, od, dV, kV, doc, pm, an, ct, osl, lk, hcd, F⟩ := D.ex
  refine ⟨⟨_, fn_of lk hcd sc__law_busy_right (fun vs H Q E h => ?_) (fun A outer s H vs Q E hr h => ⟨fun D σ H => BlX _ _ σ H D, BlX.pss, ?_⟩), F.bindsN (fun _ _ _ _ _ _ us hl => match us, hl with | [_, _, _, _], _ => rfl)⟩, D.m, F.kp⟩
  · obtain ⟨_, _, _, _, _, _, _, _, _, rfl, _⟩ := h
    rfl
  · obtain ⟨a, l0, l1, c, p, q, n0, k, st, rfl, W, hn, hb, hd, hlg, hT, hQ⟩ := h
    have S := sc__law_busy_right
    have hr : Room 19 (cX P w K mg base N__law_busy_right "_law_busy_right" s__law_busy_right (He.ga K "_law_busy_right") (.ref cb) A outer s H E).A := hr
    show BlX (cX P w K mg base N__law_busy_right "_law_busy_right" s__law_busy_right (He.ga K "_law_busy_right") (.ref cb) A outer s H E) (defBody s__law_busy_right) _ _ _
    -- edits, heard = [..], []
    refine bl_st (ps_asg (pos := _) pp (pg_tup (n := 2) rfl (pgs_cons (pg_name (i := 4) S.nd rfl (.inr rfl) (.inl rfl)) (pgs_cons (pg_name (i := 5) S.nd rfl (.inr rfl) (.inl rfl)) pgs_nil)))) ?_
    show WpX _ _ _ _ _
    refine w_tup (wa_cons (w_lst (wa_cons (w_tup (wa_cons ((d_str (x := "turn")).go fun y1 H1 e1 h1 => ?_))))))
    cases h1
    refine wa_nil ⟨by simp, fun t1 ht1 => ?_⟩
    refine wa_cons (w_tup (wa_cons ((d_str (x := "resize")).go fun y2 H2 e2 h2 => wa_cons ((d_int (i := 0)).go fun y3 H3 e3 h3 => wa_cons ((d_int (i := 1)).go fun y4 H4 e4 h4 => ?_)))))
    cases h2; cases h3; cases h4
    refine wa_nil ⟨by simp, fun t2 ht2 => wa_nil ⟨by simp, fun el hel0 => ?_⟩⟩
    refine wa_cons (w_lst (wa_nil ⟨by simp, fun hl hhl0 => ?_⟩))
    refine wa_nil ⟨by simp, fun ta hta => ?_⟩
    have x1 : Ex H1 (upd H1 t1 (.tup [.str "turn"])) := Ex.new ht1
    have x4 := e2.trans (e3.trans e4)
    have x5 : Ex H4 (upd H4 t2 (.tup [.str "resize", .int 0, .int 1])) := Ex.new ht2
    have g1 : (upd H4 t2 (.tup [.str "resize", .int 0, .int 1])) t1 = some (.tup [.str "turn"]) := x5 _ _ (x4 _ _ upd_same)
    have g2 : (upd H4 t2 (.tup [.str "resize", .int 0, .int 1])) t2 = some (.tup [.str "resize", .int 0, .int 1]) := upd_same
    have xa : Ex H (upd H4 t2 (.tup [.str "resize", .int 0, .int 1])) := e1.trans (x1.trans (x4.trans x5))
    generalize upd H4 t2 (.tup [.str "resize", .int 0, .int 1]) = H5 at g1 g2 xa hel0 hhl0 hta ⊢
    have x6 : Ex H5 (upd H5 el (.lst [.ref t1, .ref t2])) := Ex.new hel0
    have x7 : Ex (upd H5 el (.lst [.ref t1, .ref t2])) (upd (upd H5 el (.lst [.ref t1, .ref t2])) hl (.lst [])) := Ex.new hhl0
    have hel7 := x7 el (.lst [.ref t1, .ref t2]) upd_same
    have hhl7 : (upd (upd H5 el (.lst [.ref t1, .ref t2])) hl (.lst [])) hl = some (.lst []) := upd_same
    have nel : el ≠ hl := fun z => by rw [← z, upd_same] at hhl0; cases hhl0
    have xb := x6.trans x7
    have hhln : H hl = none := fresh_back (xa.trans x6) hhl0
    have heln : H el = none := fresh_back xa hel0
    generalize upd (upd H5 el (.lst [.ref t1, .ref t2])) hl (.lst []) = H6 at hta hel7 hhl7 xb ⊢
    have x8 : Ex H6 (upd H6 ta (.tup [.ref el, .ref hl])) := Ex.new hta
    have hta8 : (upd H6 ta (.tup [.ref el, .ref hl])) ta = some (.tup [.ref el, .ref hl]) := upd_same
    generalize upd H6 ta (.tup [.ref el, .ref hl]) = H7 at x8 hta8 ⊢
    refine ⟨ta, _, rfl, .inl (.inl hta8), rfl, .ref el, _, rfl, .ref hl, [], rfl, rfl, ?_⟩
    have xH : Ex H H7 := xa.trans (xb.trans x8)
    have hel := x8 _ _ hel7
    have hhl := x8 _ _ hhl7
    have hed : DpAll K H7 [.ref t1, .ref t2] (busyE.map edD) := .cons (.tup (st_of ((xb.trans x8) _ _ g1)) (.cons (.str _) .nil)) (.cons (.tup (st_of ((xb.trans x8) _ _ g2)) (.cons (.str _) (.cons (.int _) (.cons (.int _) .nil)))) .nil)
    have W7 := W.ex xH
    have nMel : ¬ MW a l0 c p q el := W.free heln
    have nMhl : ¬ MW a l0 c p q hl := W.free hhln
    have nl1 : hl ≠ l1 := fun z => by
      obtain ⟨ns, ms, t, _, _, e3, _⟩ := W.sa.ex
      rw [← z, hhln] at e3; cases e3
    have nk : k ≠ hl := fun z => by
      obtain ⟨_, _, _, ⟨xs, hk, _⟩, _⟩ := W.co
      rw [z, hhln] at hk; cases hk
    have hT7 := hT.ext xH
    clear hta8 x8 g1 g2 xb xa x1 x4 x5 x6 x7 hel7 hhl7 hta hel0 hhl0
    -- the run
    obtain ⟨g, fd, hm, FR, _, kb⟩ := Rr.ex
    refine bl_expr (.of (pe_methH (cl := cloFrom (cX P w K mg base N__law_busy_right "_law_busy_right" s__law_busy_right (He.ga K "_law_busy_right") (.ref cb) A outer s H E).env.cells lamS.names []) (fr := FL) (js := [0, 1, 3, 4, 5]) pp G.cls hm FR hr kb aa (pk_cons (pe_lamb (q := qL) D.tab rfl rfl rfl lam_free) pk_nil) (fun _ => rfl) (fun ok => NdefX.Caps.made ok lam_free lam_fr rfl) (fun ok => clo_cells ok lam_free)) ?_)
    show WpX _ _ _ _ _
    refine (v_var (v := .ref p) 2 rfl (.inl rfl) rfl rfl rfl).go fun u H8 e8 hu => ?_
    obtain ⟨dx, v1, v2, v3, v4, v5, v6, hp8, _⟩ := id (W7.ex e8).pg
    refine ⟨p, dx, _, hu, hp8, fs_no (by decide), wa_cons ((v_var (v := .ref el) 4 rfl (by walk_at "vis") rfl rfl rfl).go fun y H9 e9 hy => wa_nil ?_)⟩
    subst hy
    have e79 := e8.trans e9
    have hT9 := hT7.ext e79
    refine ⟨hT9, fun f c' H10 k1 k2 k3 k4 k5 => ⟨rfl, rfl, fun cs Cp fr => ?_⟩⟩
    have xt : LamX.ExtN H9 H10 := fun b o e n => k1 b o e (fun z => by
      obtain ⟨ps, hP, _⟩ := hT9
      rw [z, hP] at e
      exact n ps (Option.some.inj e).symm)
    have L := lam_cb (f := f) (cc := c') (qn := qL) Gh (show CapsAt _ FL [some (.ref a), some (.ref c), some (.ref q), some (.ref el), some (.ref hl)] cs from Cp)
    have W10 := ((W7.ex e79).ext xt).ex (Free.ex fr)
    have hel10 := (Free.ex fr) _ _ (xt _ _ (e79 _ _ hel) fun ps z => nomatch z)
    have hhl10 := (Free.ex fr) _ _ (xt _ _ (e79 _ _ hhl) fun ps z => nomatch z)
    have hed10 : DpAll K (hold cs H10) [.ref t1, .ref t2] (busyE.map edD) := dpa_ex (Free.ex fr) (dpa_tu (ext_dp xt) (by decide +kernel) (dpa_ex e79 hed))
    have hf10 := (Free.ex fr) _ _ k4
    have hc10 := (Free.ex fr) _ _ k5
    have hh10 := hold_held cs H10
    generalize hold cs H10 = HH at W10 hel10 hhl10 hed10 hf10 hc10 hh10
    have offM : ∀ b, (MW a l0 c p q b ∨ b = hl) → cs.lookup b = none := fun b z => z.elim ((W10.off hh10).1 b) fun z => by rw [z]; exact hh10.off hhl10 (fun o z => nomatch z)
    have stay : ∀ {H0 H1 : Hp} {b : Addr} {φ : Heap → Prop}, FrM (fun b => MW a l0 c p q b ∨ b = hl) H0 H1 → H0 b = some (.ext φ) → H1 b = some (.ext φ) := fun f e => (f _ _ e).elim id fun z => z.2.elim
    refine ⟨p, .ref el, .ref f, busyE, st, rfl, W10.pg, hb, .lst (sq_of hel10) hed10, by decide, fun e he => ?_, fun H0 n H1 => ∃ k' s1 s2, FrM (fun b => MW a l0 c p q b ∨ b = hl) H0 H1 ∧ Wd K Cc C kd a l0 l1 c p q H1 (n0 + 40 * n) k' s1 s2 ∧ Twin s1 s2 ∧ s1.done.length ≤ 40 + n ∧ s1.log = st.log ∧ s2.log.length ≤ 100 + n ∧ k' ≠ hl ∧ H1 hl = some (.lst (List.replicate n (.bl true))),
      fun H1 e1 => ⟨k, st, st, FrM.of (Ex.refl _), W10.ex e1, ⟨rfl, rfl, rfl, rfl, hb, hb⟩, by omega, rfl, by omega, nk, e1 _ _ hhl10⟩, fun H0 n H1 e0 ⟨k', s1, s2, f1, w1, _⟩ => ⟨f1.tu, s1, w1.pg⟩, fun H0 n e y H1 H2 e0 he hW e2 hy Q2 q2 => ?_, fun H0 H1 e0 hW => ?_⟩
    · simp only [busyE, List.mem_cons, List.not_mem_nil, or_false] at he
      rcases he with rfl | rfl
      · exact trivial
      · exact ⟨⟨by decide, by decide⟩, by decide, by decide⟩
    · obtain ⟨k', s1, s2, f1, w1, tw, d1, lg1, lg2, nk', hh1⟩ := hW
      have hn2 : n < 2 := by
        rw [List.getElem?_eq_some_iff] at he
        exact he.1
      have held0 : LX.Held cs H0 := fun b o z => e0 _ _ (hh10 b o z)
      have held1 : LX.Held cs H1 := Held.frm held0 f1 offM
      obtain ⟨hf, sp1, hp1⟩ := busyE_ok w1.okp (by omega) he
      obtain ⟨sp2, hp2, tw2, lq, lp, dn⟩ := tw.perform hp1
      have okp1 := (Pg.perform_ok w1.okp hf hp1).1
      have w2 := w1.ex e2
      have held2 : LX.Held cs H2 := fun b o z => e2 _ _ (held1 b o z)
      refine ⟨p, _, y, s1, e, sp1, f, _, _, L, rfl, e2 _ _ (stay f1 (e0 _ _ hf10)), (fun h => h), w2.pg, w2.okp, hy, hf, hp1, fun H4 f4 hp4 Q3 q3 => ?_⟩
      have okb : Pg.ok kd { sp1 with busy := true } := ⟨okp1.rows, okp1.len, okp1.last, okp1.few, okp1.fit, okp1.want, okp1.log⟩
      have w4 := w2.setP f4 hp4 okb
      have f04 : FrM (fun b => MW a l0 c p q b ∨ b = hl) H0 H4 := f1.trans ((FrM.of e2).trans ((FrM.ofI f4).mono fun b z => .inl (by rw [z]; exact MW.atP)))
      have held4 : LX.Held cs H4 := Held.frm held0 f04 offM
      refine ⟨stay f04 (e0 _ _ hc10), held4, p, rfl, fun nl H5 e5 hnl => ?_⟩
      have w5 := (w4.hide held4).ex e5
      have hel4 : H4 el = some (.lst [.ref t1, .ref t2]) := f04.keep (e0 _ _ hel10) (fun z => z.elim nMel nel)
      have hhl4 : H4 hl = some (.lst (List.replicate n (.bl true))) := ((FrM.ofI f4).keep (e2 _ _ hh1) (fun z => nMhl (by rw [z]; exact MW.atP)))
      have hel5 : H5 el = some (.lst [.ref t1, .ref t2]) := e5 _ _ (by rw [hide_out (held4.off hel4 (fun o z => nomatch z))]; exact hel4)
      have hhl5 : H5 hl = some (.lst (List.replicate n (.bl true))) := e5 _ _ (by rw [hide_out (held4.off hhl4 (fun o z => nomatch z))]; exact hhl4)
      obtain ⟨v, hv, hdv⟩ := dpa_get hed10 (show (busyE.map edD)[n]? = some (edD e) by rw [List.getElem?_map, he]; rfl)
      have hdv5 : Dp K H5 v (edD e) := dp_ex e5 ((hide_frm held4).dp (noL_edit e) (f04.dp (noL_edit e) (dp_ex e0 hdv)))
      refine ⟨a, l0, l1, c, p, q, nl, el, hl, n0 + 40 * n, k', n, e, { sp1 with busy := true }, s2, sp2, _, v, rfl, w5, by omega, hnl, hel5, hv, hdv5, hf, hhl5, by omega, ⟨nMel, nMhl, nl1⟩, rfl, tw.busy', hp2, tw2.now, tw2.wanted, ?_, by omega, fun H6 k6 wd f6 hk6 w6 hwd hh6 fr6 => ?_⟩
      · show sp1.log.length ≤ 900
        rw [lp, lg1]
        omega
      have x6 := Free.ex fr6
      have w7 := w6.ex x6
      have f47 : FrM (fun b => MW a l0 c p q b ∨ b = hl) H4 (hold cs H6) := frm_hold held4 ((FrM.of e5).trans f6)
      refine q3 _ _ _ w7.pg fun H8 f8 hp8 => q2 _ _ ?_
      have bz : sp1.busy = false := tw2.busy
      have hp8 : PgAt K H8 p C kd { sp1 with wanted := some wd } := by
        rw [show ({ sp1 with wanted := some wd } : Pg) = { sp1 with wanted := some wd, busy := false } by rw [← bz]]
        exact hp8
      have f78 : FrM (fun b => MW a l0 c p q b ∨ b = hl) (hold cs H6) H8 := (FrM.ofI f8).mono fun b z => .inl (by rw [z]; exact MW.atP)
      refine ⟨k6, { sp1 with wanted := some wd }, { (Pg.note kd "run" sp2) with wanted := some wd }, f04.trans (f47.trans f78), ?_, ⟨?_, ?_, ?_, rfl, bz, ?_⟩, ?_, ?_, ?_, ?_, ?_⟩
      · have := w7.setP f8 hp8 ⟨okp1.rows, okp1.len, okp1.last, okp1.few, okp1.fit, (fun w hw => by cases hw; exact hwd), okp1.log⟩
        exact this.mono (by omega)
      · show sp1.now = (Pg.note kd "run" sp2).now
        rw [note_now]; exact tw2.now
      · show sp1.states = (Pg.note kd "run" sp2).states
        rw [note_states]; exact tw2.states
      · show sp1.done = (Pg.note kd "run" sp2).done
        rw [note_done]; exact tw2.done
      · show (Pg.note kd "run" sp2).busy = false
        rw [note_busy]; exact tw2.busy'
      · show sp1.done.length ≤ _
        rw [dn, List.length_append, List.length_singleton]
        omega
      · show sp1.log = st.log
        rw [lp, lg1]
      · show (Pg.note kd "run" sp2).log.length ≤ _
        have := note_logl (kd := kd) (n := "run") (st := sp2)
        rw [lq] at this
        omega
      · exact fun z => by rw [z, hhl5] at hk6; cases hk6
      · exact (FrM.ofI f8).keep (x6 _ _ hh6) (fun z => nMhl (by rw [z]; exact MW.atP))
    · obtain ⟨k', s1, s2, f1, w1, tw, d1, lg1, lg2, nk', hh1⟩ := hW
      refine ⟨s1, w1.pg, by rw [lg1]; omega, fun H2 f2 hp2 => ?_⟩
      have okn : (Pg.note kd "run" { s1 with busy := false }).ok kd := note_okP ⟨w1.okp.rows, w1.okp.len, w1.okp.last, w1.okp.few, w1.okp.fit, w1.okp.want, w1.okp.log⟩ (by decide)
      have w2 := w1.setP f2 hp2 okn
      have held1 : LX.Held cs H1 := Held.frm (fun b o z => e0 _ _ (hh10 b o z)) f1 offM
      have held2 : LX.Held cs H2 := Held.frm held1 (FrM.ofI f2) (fun b z => offM b (.inl (by rw [z]; exact MW.atP)))
      have w3 := w2.hide held2
      have hhl2 : H2 hl = some (.lst [.bl true, .bl true]) := (FrM.ofI f2).keep hh1 (fun z => nMhl (by rw [z]; exact MW.atP))
      have hhl3 : (hide cs H2) hl = some (.lst [.bl true, .bl true]) := by rw [hide_out (held2.off hhl2 (fun o z => nomatch z))]; exact hhl2
      have hw : (Pg.note kd "run" { s1 with busy := false }).wanted = s2.wanted := by rw [note_wanted]; exact tw.wanted
      have hnw : (Pg.note kd "run" { s1 with busy := false }).now = s2.now := by rw [note_now]; exact tw.now
      have hdn : (Pg.note kd "run" { s1 with busy := false }).done = s2.done := by rw [note_done]; exact tw.done
      generalize Pg.note kd "run" { s1 with busy := false } = sp at hw hnw hdn w3 okn
      clear w2 hp2
      show BlX _ _ _ (hide cs H2) _
      generalize hide cs H2 = H3 at w3 hhl3 ⊢
      refine bl_ret (w_andT (EvD.is (d_eq (r64 hr) (x_var (d := .list [.bool true, .bool true]) 5 rfl (by walk_at "vis") rfl (.lst (sq_of hhl3) (.cons (.bl _) (.cons (.bl _) .nil))) rfl rfl) (d_lst (ds := [.bool true, .bool true]) (a_cons d_bl (a_cons d_bl a_nil)) (by simp)) (by decide +kernel) (by decide +kernel)) (d1 := .bool true) (by simp [PyData.eqv, PyData.eqvAll])) fun H4 e4 => w_last ((EvD.is (d_eq (r64 hr) (d_prop (p := p) G.cls Gwid (hr.mono (by decide)) (v_var 2 rfl (by walk_at "vis") rfl rfl rfl) ((w3.ex e4).pg) okn) (d_prop (p := q) G.cls Gwid (hr.mono (by decide)) (v_var 3 rfl (by walk_at "vis") rfl rfl rfl) ((w3.ex e4).qg) w1.okq) (shaped_opt _) (shaped_opt _)) (d1 := .bool true) ?_).go fun y H5 e5 hy => ?_))
      · show PyData.bool (PyData.eqv (optI sp.wanted) (optI s2.wanted)) = _
        rw [hw, eqv_opt]
      cases hy
      have w5 := w3.ex (e4.trans e5)
      exact hQ H5 sp s2 w5.pg w5.qg okn w1.okq hnw hdn
end
end TX
end
section
namespace TX
open PySem PySem.Spec PyProof.Rows L2 Evl W1 D1 MM LX
section
variable {X : Cx} {e a b iter cond elt : Expr} {es : List Expr} {σ : L2.St} {H : Hp} {pos p p1 p2 : Pos} {x y : Str} {Q : VK} {j : Nat} {scope : Scope} {own : List (Str × Nat)} {l : Addr} {xs : List V} {i : Int}
theorem d_abs (hg : Gl X "abs") (B : Bi X.mg) (h : EvD X e σ H (.int i)) (hst : starEach [e] X.env = (false, eval e X.env) :: starEach [] X.env := by rfl) (hpl : (backTo pos (starEach [] X.env)).any (·.1) = false := by rfl) : EvD X (.Call (.Name "abs" p) [e] [] pos) σ H (.int i.natAbs) :=
  d_cb (x := "abs") (id := "abs") call_abs hg B.abs boot_abs (a_cons h a_nil hst) (fun vs H2 _ hvs Q q => by
    obtain ⟨y, rfl, hy⟩ := dpa1 hvs
    cases hy
    refine ⟨i, rfl, q _ H2 (Ex.refl H2) ?_⟩
    rw [show (i.natAbs : Int) = if i < 0 then -i else i by split <;> omega]
    exact .int _) (he := hst) (hpl := hpl)
theorem d_pow {i j : Int} (ha : EvD X a σ H (.int i)) (hb : EvD X b σ H (.int j)) (hC : CPow i j) : EvD X (.BinOp a .Pow b pos) σ H (.int (i ^ j.toNat)) := d_opC (C := CPow) (g := fun i j => i ^ j.toNat) op_pow ha hb hC
/-- [y for y in l if cond], numbers -/
theorem n_lcIf {py : Pos} (ns : List Int) (f : Int → Bool) (hc : X.calm = true) (hN : X.N.Nodup) (hi : EvP X iter σ H fun v _ => v = .ref l) (hl : H l = some (.lst (ns.map .int))) (hlen : ns.length ≤ 100) (ok : BlkOk X.N X.env.scope scope own) (hj : X.N[j]? = some y) (hy : scope.names.lookup y = some .local)
    (hw : ∀ v, wipe ((wipe σ (own.map (·.2))).set j (some v)) (own.map (·.2)) = wipe σ (own.map (·.2)))
    (hs : Blk X scope fun X' => ∀ i H', EvB X' cond ((wipe σ (own.map (·.2))).set j (some (.int i))) H' (f i)) (he : Blk X scope fun X' => ∀ i H', EvP X' elt ((wipe σ (own.map (·.2))).set j (some (.int i))) H' fun v _ => v = .int i)
    (hfs : ∀ x, foldedSetIterable iter X.env x = pure x := by intro _; rfl) :
    EvP X (.ListComp elt [⟨.Name y py, iter, [cond], 0⟩] scope pos) σ H fun v H' => ∃ d, v = .ref d ∧ H d = none ∧ H' d = some (.lst ((ns.filter f).map .int)) := by
  refine .of (pe_lc (own := own) (g := gName j) (tt := fun σ' H' Q => Blk X scope fun X' => WtX X' cond σ' H' Q) (te := fun σ' H' Q => Blk X scope fun X' => WpX X' elt σ' H' Q) hc hN (pi_list pp) ok (fun _ _ _ _ _ => pg_name (i := j) hN hj (.inl (lookup_relabel_local hy)) (.inr (lookup_relabel_local hy))) (fun s H C cl fp => pts_one ⟨fun pins s' _ _ _ I h => h s H C cl fp pins s' I⟩) (fun s H C cl fp => ⟨fun pins s' _ _ _ I h => h s H C cl fp pins s' I⟩) hfs) fun H0 e0 Q q => ?_
  show WpX _ _ _ _ _
  refine hi.run H0 e0 _ fun v H1 e1 hv => ⟨l, hv, ⟨ns.map .int, sq_of ((e0.trans e1) _ _ hl)⟩, fun d hd0 => ?_⟩
  refine lc_list (g := gName j) (tt := fun σ' H' Q => Blk X scope fun X' => WtX X' cond σ' H' Q) (te := fun σ' H' Q => Blk X scope fun X' => WpX X' elt σ' H' Q) (vs := own.map (·.2)) (σ := σ) (xs := ns.map .int) (fun n H' => Ex H1 H' ∧ H' d = some (.lst (((ns.take n).filter f).map .int))) ⟨Ex.new hd0, upd_same⟩ (fun i H' _ hp => sq_of (hp.1 _ _ ((e0.trans e1) _ _ hl))) (fun n v H' hv hp => ⟨hw _, ?_⟩) fun H' hp => q _ H' (e1.trans hp.1) ⟨d, rfl, fresh_back (e0.trans e1) hd0, by rw [hp.2, List.length_map, List.take_length]⟩
  show Blk X scope fun X' => WtX X' cond _ H' _
  intro s0 H0' C0 cl0 fp0
  rw [List.getElem?_map] at hv
  cases hni : ns[n]? with
  | none => rw [hni] at hv; cases hv
  | some i =>
    rw [hni] at hv
    cases hv
    refine (hs s0 H0' C0 cl0 fp0 i H').go fun H2 e2 => ?_
    have ht : ns.take (n + 1) = ns.take n ++ [i] := by rw [List.take_add_one, hni]; rfl
    cases hf : f i with
    | false =>
      show _ ∧ _
      refine ⟨hp.1.trans e2, ?_⟩
      rw [ht, List.filter_append, List.filter_cons_of_neg (by rw [hf]; decide)]
      simpa using e2 _ _ hp.2
    | true =>
      show Blk X scope fun X' => WpX X' elt _ H2 _
      intro s1 H1' C1 cl1 fp1
      refine (he s1 H1' C1 cl1 fp1 i H2).go fun v H3 e3 hv => ?_
      subst hv
      refine ⟨_, e3 _ _ (e2 _ _ hp.2), ?_, Ex.mut (hp.1.trans (e2.trans e3)) hd0, ?_⟩
      · rw [List.length_map, sizeLine_eq]
        have h1 := List.length_filter_le f (ns.take n)
        have h2 : (ns.take n).length ≤ ns.length := by rw [List.length_take]; omega
        omega
      · rw [upd_same, ht, List.filter_append, List.filter_cons_of_pos (by rw [hf])]
        simp
end
section
variable {P : Program} {w : World} {K : PySem.W.Frag} {mg : Str → Option Value} {base : Heap}
def S_lstream (K : PySem.W.Frag) : Sp := fun vs H Q _ => ∃ (x : V) (ns : List Int), vs = [x] ∧ Dp K H x (.list (ns.map .int)) ∧ ns.length ≤ 100 ∧ ∀ a l0 l1 H', Ex H H' → StAt H' a l0 l1 0 → H a = none → H l0 = none → H l1 = none → Q (.ref a) H'
theorem stream_ok (B : Bi mg) (D : Df K mg "_law_stream" s__law_stream) : Gf P w K mg base 1 "_law_stream" P__law_stream (S_lstream K) := by
  refine D.gf 0 sc__law_stream (fun vs H Q E h => ?_) (fun _ _ _ _ _ _ us hl => match us, hl with | [_], _ => rfl) fun cdv A outer s H vs Q E hr h => ?_
  · obtain ⟨_, _, rfl, _⟩ := h
    rfl
  · obtain ⟨x, ns, rfl, hx, hl, hQ⟩ := h
    have S := sc__law_stream
    refine s_lcL 1 rfl rfl (own := [("_law_cell", 2)]) (j := 2) (ds := ns.map .int) (fun d => match d with | .int i => .int i.natAbs | _ => .none) rfl S.nd (x_var 0 rfl (.inl rfl) rfl hx rfl rfl) (blkOk_by (N := N__law_stream) (sc := defScope s__law_stream) (by decide +kernel)) rfl rfl (fun _ => rfl) (by rw [List.length_map]; omega) (fun d hd => ?_) ?_ (kk := fun l1 xs H1 e1 h0 h1 h2 => ?_)
    · obtain ⟨i, _, rfl⟩ := List.mem_map.mp hd
      rfl
    · intro s0 H0 C0 cl0 fp0 d v H1 e1 hm hv
      obtain ⟨i, _, rfl⟩ := List.mem_map.mp hm
      exact d_abs (by rfl) B (x_var 2 rfl (by walk_at "vis") rfl hv rfl rfl)
    have hxs : xs = (ns.map fun i => ((i.natAbs : Nat) : Int)).map .int := by
      have : (ns.map PyData.int).map (fun d : PyData => match d with | .int i => PyData.int (i.natAbs : Nat) | _ => .none) = (ns.map fun i => ((i.natAbs : Nat) : Int)).map PyData.int := by rw [List.map_map, List.map_map]; rfl
      rw [this] at h2
      exact dpa_ints h2
    obtain ⟨ms, hms⟩ : ∃ ms : List Int, ms = ns.map fun i => ((i.natAbs : Nat) : Int) := ⟨_, rfl⟩
    rw [← hms] at hxs
    subst hxs
    have hml : ms.length ≤ 100 := by rw [hms, List.length_map]; exact hl
    clear h2 hms
    refine bl_ret (w_lst (wa_cons ((n_lcIf (own := [("_law_cell", 2)]) (j := 2) (l := l1) ms (fun i => decide ((10 : Int) ^ (18 : Int).toNat ≤ i)) rfl S.nd (v_var (v := .ref l1) 1 rfl (.inl rfl) rfl rfl rfl) h1 hml (blkOk_by (N := N__law_stream) (sc := defScope s__law_stream) (by decide +kernel)) rfl rfl (fun _ => rfl) ?_ ?_).go fun v H2 e2 hv => ?_)))
    · intro s0 H0 C0 cl0 fp0 i H'
      exact b_ge (x_var (d := .int i) 2 rfl (by walk_at "vis") rfl (.int _) rfl rfl) (d_pow d_int d_int ⟨by decide, by decide, by decide⟩)
    · intro s0 H0 C0 cl0 fp0 i H'
      exact v_var 2 rfl (by walk_at "vis") rfl rfl rfl
    obtain ⟨l0, rfl, hd0, hd⟩ := hv
    refine wa_cons (.of (pe_ifExp tt pp pp) ?_)
    show WtX _ _ _ _ _
    refine EvB.go (b := !PyData.eqv (.list (ms.map .int)) (.list [])) (b_ne (r64 hr) (x_var 1 rfl (.inl rfl) rfl (.lst (sq_of (e2 _ _ h1)) (ints_dpa ms)) rfl rfl) (d_lst (ds := []) a_nil (by decide)) (shaped_ints ms) shaped_nil) fun H3 e3 => ?_
    have key : ∀ (l : Addr) (zs : List Int) (H5 : Hp), Ex H H5 → H5 l0 = some (.lst ((ms.filter fun i => decide ((10 : Int) ^ (18 : Int).toNat ≤ i)).map .int)) → H5 l = some (.lst (zs.map .int)) → zs ≠ [] → zs.length ≤ 100 → H l = none → l0 ≠ l → ∀ t, H5 t = none → Q (.ref t) (upd H5 t (.lst [.ref l0, .ref l, .int 0])) := fun l zs H5 e5 k0 k1 k2 k3 k4 k5 t ht => by
      have ex : Ex H5 (upd H5 t (.lst [.ref l0, .ref l, .int 0])) := Ex.new ht
      exact hQ t l0 l _ (e5.trans ex) ⟨⟨_, zs, 0, upd_same, ex _ _ k0, ex _ _ k1, k2, k3, by exact Nat.le_trans (List.length_filter_le _ _) hml, by omega, by omega⟩, k5, fun z => (by rw [z, k0] at ht; cases ht), fun z => (by rw [z, k1] at ht; cases ht)⟩ (fresh_back e5 ht) (fresh_back e1 hd0) k4
    have e02 := e1.trans e2
    cases hm : !PyData.eqv (.list (ms.map .int)) (.list []) with
    | true =>
      show WpX _ _ _ _ _
      refine (v_var (v := .ref l1) 1 rfl (.inl rfl) rfl rfl rfl).go fun y H4 e4 hy => wa_cons ((d_int (i := 0)).go fun z H5 e5 hz => wa_nil ⟨by simp, fun t ht => ?_⟩)
      cases hz
      subst hy
      refine key l1 ms H5 (e02.trans (e3.trans (e4.trans e5))) ((e3.trans (e4.trans e5)) _ _ hd) ((e2.trans (e3.trans (e4.trans e5))) _ _ h1) (fun z => ?_) hml h0 (fun z => by rw [z, h1] at hd0; cases hd0) t ht
      rw [z, eqv_nil] at hm
      cases hm
    | false =>
      show WpX _ _ _ _ _
      refine w_lst (wa_cons ((d_int (i := 41)).go fun y H4 e4 hy => wa_nil ⟨by simp, fun l hl0 => wa_cons ((d_int (i := 0)).go fun z H5 e5 hz => wa_nil ⟨by simp, fun t ht => ?_⟩)⟩))
      cases hz
      cases hy
      have x1 : Ex H4 (upd H4 l (.lst [.int 41])) := Ex.new hl0
      have e34 := e3.trans e4
      refine key l [41] H5 (e02.trans (e34.trans (x1.trans e5))) ((e34.trans (x1.trans e5)) _ _ hd) (e5 _ _ upd_same) (by simp) (by simp) (fresh_back (e02.trans e34) hl0) (fun z => by rw [← z, e34 _ _ hd] at hl0; cases hl0) t ht
end
end TX
end
section
namespace TX
open PySem PySem.Spec PyProof.Rows L2 Evl W1 D1 MM LX
section
variable {X : Cx} {a b c e : Expr} {es : List Expr} {σ : L2.St} {H : Hp} {pos p p1 p2 : Pos} {x y : Str} {Q : VK} {QB : Bool → Hp → Prop} {i j k n : Nat} {body orelse rest : List Stmt} {D : Ends} {C : Addr} {kd : PKind} {st st' : Pg} {pa qa : Addr}
theorem tImp {Q Q' : Bool → Hp → Prop} (h : WtX X e σ H Q) (k : ∀ v H', Q v H' → Q' v H') : WtX X e σ H Q' := fun pins s I => thn (h pins s I) fun _ _ ⟨H', I', q⟩ => ⟨H', I', k _ H' q⟩
/-- for x in range(n) -/
theorem bl_forR {py : Pos} (hp : PassesOwn (model X.prog X.w) X.A X.env X.xe) (hc : X.calm = true) (hN : X.N.Nodup) (hg : Gl X "range") (B : Bi X.mg) (hi : X.N[i]? = some x) (hx : X.env.scope.names.lookup x = some .local) (he : EvD X e σ H (.int (n : Nat))) (hn : n ≤ 1000)
    (Pv : Nat → L2.St → Hp → Prop) (h0 : ∀ H1, Ex H H1 → Pv 0 σ H1) (hs : ∀ (m : Nat) σ' H', m < n → Pv m σ' H' → BlX X body (σ'.set i (some (.int (m : Nat)))) H' { D with nx := Pv (m + 1), ct := Pv (m + 1), bk := fun σ2 H2 => BlX X rest σ2 H2 D })
    (hd : ∀ σ' H', Pv n σ' H' → BlX X rest σ' H' D) (hst : starEach [e] X.env = [(false, eval e X.env)] := by rfl) (hfs : ∀ z, foldedSetIterable (.Call (.Name "range" p1) [e] [] p2) X.env z = pure z := by intro _; rfl) :
    BlX X (.For (.Name x py) (.Call (.Name "range" p1) [e] [] p2) body [] pos :: rest) σ H D := by
  refine bl_st (ps_for hp hc (pi_range1 hg B.range aa hst) (pg_name (i := i) hN hi (.inl hx) (.inr hx)) bb hfs) ?_
  show WaX X [e] σ H _
  refine (a_cons he a_nil (by rw [hst]; rfl) : EvA X [e] σ H [.int (n : Nat)]).run H (Ex.refl H) _ fun vs H1 e1 hvs => ?_
  obtain ⟨u, rfl, hu⟩ := dpa1 hvs
  cases hu
  refine ⟨_, rfl, by omega, by omega, ?_⟩
  rw [Int.toNat_natCast]
  refine for_range (g := gName i) (tb := fun D σ H => BlX X body σ H D) (D := { D with nx := fun σ' H' => BlX X rest σ' H' D }) Pv (h0 H1 e1) (fun m σ' H' hm hp => ?_) hd
  show BlX X body (σ'.set i (some (.int (0 + (m : Nat))))) H' _
  rw [Int.zero_add]
  exact hs m σ' H' hm hp
/-- if, its test of any effect -/
theorem bl_ifX (h : WtX X c σ H fun k H1 => if k = true then BlX X body σ H1 { D with nx := fun σ' H' => BlX X rest σ' H' D } else BlX X orelse σ H1 { D with nx := fun σ' H' => BlX X rest σ' H' D }) : BlX X (.If c body orelse pos :: rest) σ H D := bl_st (ps_if tt bb bb) h
theorem bl_ifNo (h : WtX X c σ H fun k H1 => k = false ∧ BlX X rest σ H1 D) : BlX X (.If c body [] pos :: rest) σ H D := bl_ifX (tImp h fun k H1 ⟨hk, q⟩ => by
  rw [hk, if_neg (by decide)]
  exact bl_nil q)
theorem t_tot (h : WwX X e σ H QB) : WtX X e σ H QB := fun pins s I => h _ pins s I
theorem t_orF (h : WtX X a σ H fun k H1 => k = false ∧ WwX X (.BoolOp .Or (b :: es) pos) σ H1 QB) : WwX X (.BoolOp .Or (a :: b :: es) pos) σ H QB := fun wh pins s I => (pw_or (a := a) tt ww).run wh pins s σ H QB I (tImp h fun k H1 ⟨hk, q⟩ => by
  rw [hk]
  exact q)
theorem t_or1 (h : WtX X a σ H QB) : WwX X (.BoolOp .Or [a] pos) σ H QB := fun wh pins s I => (pw_or1 tt).run wh pins s σ H QB I h
theorem t_not (h : WtX X a σ H fun k H1 => QB (!k) H1) : WtX X (.UnaryOp .Not a pos) σ H QB := .of (pt_not tt) h
theorem t_val (h : WpX X e σ H fun v H1 => ∃ k, v = .bl k ∧ QB k H1) (he : ∀ whole, isTrue e X.env whole = (do let v ← whole; standAt e.pos; holding [v] (truthy v)) := by intro _; rfl) : WtX X e σ H QB := .of (pt_val pp he) h
/-- a == b, texts -/
theorem t_neS (h : WpX X a σ H fun v H1 => WpX X b σ H1 fun u H2 => ∃ t : Str, v = .str t ∧ u = .str t ∧ QB false H2) : WtX X (.Compare a [.NotEq] [b] pos) σ H QB :=
  .of (pt_cmpR op_ne pp pp (nomark _)) (show WpX X a σ H _ from h.imp fun v H1 q => show WpX X b σ H1 _ from q.imp fun u H2 ⟨t, h1, h2, q3⟩ => by
    subst h1 h2
    exact ⟨rfl, _, rfl, by simpa using q3⟩)
theorem w_eqS (h : WpX X a σ H fun v H1 => WpX X b σ H1 fun u H2 => ∃ t : Str, v = .str t ∧ u = .str t ∧ Q (.bl true) H2) : WpX X (.Compare a [.Eq] [b] pos) σ H Q :=
  .of (pe_cmpR op_eq pp pp (nomark _)) (show WpX X a σ H _ from h.imp fun v H1 q => show WpX X b σ H1 _ from q.imp fun u H2 ⟨t, h1, h2, q3⟩ => by
    subst h1 h2
    exact ⟨rfl, by rw [dec_str]; simpa using q3⟩)
/-- two pages compared -/
theorem b_eqP (It : Itf X.prog X.w X.K X.mg X.base k C "__eq__" P_Page_eq (S_eq X.K C kd)) (nf : PySem.W.notFirst X.K C (.ref C) = true) (hr : Room k X.A) (ha : EvP X a σ H fun v _ => v = .ref pa) (hb : EvP X b σ H fun v _ => v = .ref qa) (hp : PgAt X.K H pa C kd st) (hq : PgAt X.K H qa C kd st') : EvB X (.Compare a [.Eq] [b] pos) σ H (PyData.eqv (rowD st.now) (rowD st'.now)) := by
  obtain ⟨g, h1, h2, h3, F⟩ := It.ex
  refine .of (pt_cmpR (op_cmpO (E := E0') (fun _ _ => rfl) h1 h3 F.raw hr passF) pp pp (nomark _)) fun H1 e1 Q q => ha.run H1 e1 _ fun v H2 e2 hv => hb.run H2 (e1.trans e2) _ fun u H3 e3 hu => ?_
  subst hv hu
  have e13 := e1.trans (e2.trans e3)
  obtain ⟨dx, fs, hi⟩ := pg_ins (hp.ex e13)
  obtain ⟨dy, gs, hj⟩ := pg_ins (hq.ex e13)
  exact ⟨pa, dx, fs, qa, C, dy, gs, rfl, rfl, hi, hj, nf, pa, qa, st, st', rfl, hp.ex e13, hq.ex e13, fun H' e' => ⟨_, rfl, q H' (e2.trans (e3.trans e'))⟩⟩
end
end TX
end
section
namespace TX
open PySem PySem.Spec PyProof.Rows L2 Evl W1 D1 MM LX
theorem eqv_sh {d : PyData} (h : SeqAt.shaped d = true) : PyData.eqv d d = true := SeqAt.eqv_refl d (SeqAt.canLay_of_shaped h)
def LogOk (st : Pg) : Prop := ∀ q ∈ st.log, PyData.strOk q.1 = true
theorem lay_log : ∀ l : List (Str × Int), (∀ q ∈ l, PyData.strOk q.1 = true) → PyData.canLayAll0 (l.map fun q => PyData.tuple [.str q.1, .int q.2]) = true ∧ PyData.depthAll (l.map fun q => PyData.tuple [.str q.1, .int q.2]) ≤ 1
  | [], _ => by simp [PyData.canLayAll0, PyData.depthAll]
  | e :: l, h => by
    obtain ⟨h1, h2⟩ := lay_log l fun q hq => h q (List.mem_cons_of_mem _ hq)
    have h3 := h e (List.mem_cons_self ..)
    rw [List.map_cons]
    refine ⟨by simp [PyData.canLayAll0, PyData.canLay0, h1, h3], ?_⟩
    simp only [PyData.depthAll, PyData.depth]
    omega
theorem shaped_log {st : Pg} (h : LogOk st) : SeqAt.shaped (logD st.log) = true := by
  obtain ⟨h1, h2⟩ := lay_log st.log h
  show (PyData.canLay0 (logD st.log) && decide (PyData.depth (logD st.log) ≤ 64)) = true
  have : PyData.depth (logD st.log) ≤ 64 := by
    simp only [logD, PyData.depth]
    omega
  simp only [this, decide_true, Bool.and_true]
  simp only [logD, PyData.canLay0]
  exact h1
theorem nm_ok (e : Edit) : PyData.strOk e.nm = true := by cases e <;> (simp only [Edit.nm]; decide +kernel)
section
variable {kd : PKind} {st st' : Pg} {e : Edit}
theorem act_done (q : st.act kd e = .ok st') : st'.done.length ≤ st.done.length + 1 ∧ (LogOk st → LogOk st') := by
  unfold Pg.act at q
  cases ho : st.alone kd e with
  | error b => rw [ho] at q; cases q
  | ok s =>
    rw [ho] at q
    cases q
    have per : ∀ f : Edit, st.perform kd f = .ok s → s.done.length ≤ st.done.length + 1 ∧ s.log = st.log := fun f h => by
      unfold Pg.perform at h
      split at h
      · cases h
      · split at h
        · cases h
        · split at h
          · cases h
            refine ⟨?_, rfl⟩
            show (st.done ++ [_]).length ≤ _
            rw [List.length_append, List.length_singleton]
            omega
          · cases h
    have key : s.done.length ≤ st.done.length + 1 ∧ s.log = st.log := by
      unfold Pg.alone at ho
      split at ho
      · cases ho
      · cases e with
        | undo =>
          have ho : st.undo = .ok s := ho
          unfold Pg.undo at ho
          split at ho
          · cases ho
          · cases ho
            refine ⟨?_, rfl⟩
            show st.done.dropLast.length ≤ _
            rw [List.length_dropLast]
            omega
        | put p l => exact per (.put p l) ho
        | cut p => exact per (.cut p) ho
        | resize p l => exact per (.resize p l) ho
        | turn => exact per .turn ho
    refine ⟨by rw [note_done]; exact key.1, fun hl z hz => ?_⟩
    unfold Pg.note at hz
    split at hz
    · rcases List.mem_append.mp hz with hz | hz
      · rw [key.2] at hz; exact hl z hz
      · rw [List.mem_singleton.mp hz]; exact nm_ok e
    · rw [key.2] at hz; exact hl z hz
/-- how the law's pages go on -/
structure Nxt (kd : PKind) (n : Nat) (st : Pg) : Prop where
  ok : st.ok kd
  busy : st.busy = false
  done : st.done.length ≤ n
  log : st.log.length ≤ n
  lok : LogOk st
theorem Nxt.mono {n m : Nat} (h : Nxt kd n st) (e : n ≤ m) : Nxt kd m st := ⟨h.ok, h.busy, Nat.le_trans h.done e, Nat.le_trans h.log e, h.lok⟩
theorem Nxt.aft {n : Nat} (h : Nxt kd n st) (hc : Edit.can e) : Nxt kd (n + 1) (aftP st (st.act kd e)) := by
  cases ha : st.act kd e with
  | error b => exact h.mono (by omega)
  | ok st' =>
    obtain ⟨a1, a2, a3, a4⟩ := act_ok h.ok (fun _ => hc) ha
    obtain ⟨b1, b2⟩ := act_done ha
    exact ⟨a1, by rw [show aftP st (.ok st') = st' from rfl, a2]; exact h.busy, Nat.le_trans b1 (by have := h.done; omega), Nat.le_trans a4 (by have := h.log; omega), b2 h.lok⟩
theorem Nxt.look {n : Nat} {wd : Int} (h : Nxt kd n st) : Nxt kd n (cmdR kd st (.qy (.look wd))).2 := by
  by_cases hw : 1 ≤ wd ∧ wd ≤ 2000
  · rw [look_yes hw]
    exact ⟨⟨h.ok.rows, h.ok.len, h.ok.last, h.ok.few, h.ok.fit, (fun w hw' => by cases hw'; exact hw), h.ok.log⟩, h.busy, h.done, h.log, h.lok⟩
  · rw [look_no hw]
    exact h
theorem new_nxt {r : List Int} (h : RowOk r) (hf : fitsK kd r) : Nxt kd 0 (Pg.new r) := ⟨new_ok h hf, rfl, Nat.le_refl _, Nat.le_refl _, fun q hq => nomatch hq⟩
theorem cmd_aft : (cmdR kd st (.ed e)).2 = aftP st (st.act kd e) := by
  simp only [cmdR]
  cases st.act kd e <;> rfl
/-- the text of an outcome -/
theorem said_of {d : PyData} (h : outD (st.act kd e) d) (hok : (aftP st (st.act kd e)).done.length ≤ 60) : ∃ nm dv, d = .list [.str nm, dv] ∧ OutOk nm dv ∧ saidText nm dv = (cmdR kd st (.ed e)).1 ∧ TxtOk (cmdR kd st (.ed e)).1 := by
  simp only [cmdR]
  cases ha : st.act kd e with
  | ok s =>
    rw [ha] at h hok
    have h : d = .list [.str "ok", .int (s.done.length : Nat)] := h
    have hs : small (s.done.length : Nat) := ⟨by omega, by
      have : s.done.length ≤ 60 := hok
      omega⟩
    refine ⟨"ok", .int (s.done.length : Nat), h, ⟨by decide +kernel, fun _ => ⟨_, rfl, hs⟩⟩, ?_, txt_ok hs⟩
    show ("ok " : Str) ++ sI (s.done.length : Nat) = okText _
    unfold okText
    show _ = ((Str.empty ++ ("ok " : Str)) ++ sI (s.done.length : Nat))
    rw [app_empty]
  | error b =>
    rw [ha] at h
    obtain ⟨dv, rfl⟩ := h
    have hn : b.name ≠ okTag := by cases b <;> decide +kernel
    refine ⟨b.name, dv, rfl, ⟨by cases b <;> decide +kernel, fun z => absurd z hn⟩, ?_, txt_err b⟩
    unfold saidText
    rw [if_neg hn]
    show ("error " : Str) ++ b.name = errText b
    clear hn ha
    cases b <;> decide +kernel
theorem line_of (h : Edit.can e) : ∃ ps, edD e = .tuple ps ∧ ps.length ≤ 3 ∧ (∀ d ∈ ps, PartOk d) ∧ lineText ps = Cmd.text (.ed e) := by
  refine ⟨e.parts, rfl, parts_few e, parts_ok ?_, by cases e <;> rfl⟩
  cases e with
  | put p l => exact ⟨h.1, by have := h.2.1; omega, by have := h.2.2; omega⟩
  | cut p => exact h
  | resize p l => exact ⟨h.1, by have := h.2.1; omega, by have := h.2.2; omega⟩
  | turn => exact trivial
  | undo => exact trivial
end
theorem tabs_frm {H H' : Hp} {M : Addr → Prop} {P : Addr} {q : Str} (t : LamX.TabS H P q) (f : FrM M H H') : LamX.TabS H' P q := by
  obtain ⟨ps, h1, h2, h3⟩ := t
  refine ⟨ps, (f _ _ h1).elim id fun z => z.2.elim, h2, fun pos cv hc => ?_⟩
  obtain ⟨c, e1, e2⟩ := h3 pos cv hc
  exact ⟨c, e1, (f _ _ e2).elim id fun z => z.2.elim⟩
theorem tabs_nil {H : Hp} {P : Addr} {q : Str} (h : H P = some (.tbl #[])) : LamX.TabS H P q := ⟨#[], h, trivial, fun pos cv hc => nomatch (show (none : Option Value) = some cv from hc)⟩
end TX
end
section
namespace TX
open PySem PySem.Spec PyProof.Rows L2 Evl W1 D1 MM LX
section
variable {X : Cx} {c : Expr} {σ : L2.St} {H : Hp} {pos : Pos} {body orelse rest : List Stmt} {D : Ends}
theorem BlXmono {N N' : L2.St → Hp → Prop} (h : BlX X rest σ H { D with nx := N }) (k : ∀ σ' H', N σ' H' → N' σ' H') : BlX X rest σ H { D with nx := N' } := ⟨fun pins s I => thn (h.run pins s I) fun r s' q => by
  cases r with
  | next =>
    obtain ⟨σ', H', J, q⟩ := q
    exact ⟨σ', H', J, k σ' H' q⟩
  | _ => exact q⟩
theorem bl_ifM (Mid : L2.St → Hp → Prop) (h : WtX X c σ H fun b H1 => if b = true then BlX X body σ H1 { D with nx := Mid } else BlX X orelse σ H1 { D with nx := Mid }) (k : ∀ σ' H', Mid σ' H' → BlX X rest σ' H' D) : BlX X (.If c body orelse pos :: rest) σ H D := bl_ifX (tImp h fun b H1 q => by
  cases b with
  | true => exact BlXmono (show BlX X body σ H1 { D with nx := Mid } from q) k
  | false => exact BlXmono (show BlX X orelse σ H1 { D with nx := Mid } from q) k)
end
section
variable {P : Program} {w : World} {K : PySem.W.Frag} {mg : Str → Option Value} {base : Heap}
theorem ints_of {e : Edit} (h : Edit.can e) : ∀ i ∈ Cmd.ints (.ed e), small i := by
  cases e with
  | put p l =>
    intro i hi
    simp only [Cmd.ints, Edit.ints, List.mem_cons, List.not_mem_nil, or_false] at hi
    rcases hi with rfl | rfl
    · exact h.1
    · exact ⟨by have := h.2.1; omega, by have := h.2.2; omega⟩
  | cut p =>
    intro i hi
    simp only [Cmd.ints, Edit.ints, List.mem_cons, List.not_mem_nil, or_false] at hi
    rw [hi]
    exact h
  | resize p l =>
    intro i hi
    simp only [Cmd.ints, Edit.ints, List.mem_cons, List.not_mem_nil, or_false] at hi
    rcases hi with rfl | rfl
    · exact h.1
    · exact ⟨by have := h.2.1; omega, by have := h.2.2; omega⟩
  | turn => intro i hi; cases hi
  | undo => intro i hi; cases hi
/-- what is promised of one of the four classes of pages -/
structure Kd4 (P : Program) (w : World) (K : PySem.W.Frag) (mg : Str → Option Value) (base : Heap) (Cc PT : Addr) (lg : Prop) (C : Addr) (kd : PKind) : Prop where
  G : PgC K C
  row : Pf P w K mg base 1 C "row" (S_get K C kd r_row)
  width : Pf P w K mg base 1 C "width" (S_get K C kd r_width)
  log : lg → Pf P w K mg base 1 C "log" (S_get K C kd r_log)
  exec : Mf P w K mg base 13 Cc "execute" P_Console_execute (S_exec K Cc C kd)
  qr : Gf P w K mg base 14 "_law_queries_right" P__law_queries_right (S_qr K Cc C kd)
  looked : Gf P w K mg base 14 "_law_looked" P__law_looked (S_looked K Cc C kd)
  look : Gf P w K mg base 8 "_law_look" P__law_look (S_llook K C kd)
  did : Gf P w K mg base 11 "_law_did" P__law_did (S_did K C kd)
  seen : GfG P w K mg base 5 "_law_seen" P__law_seen (S_seen K C kd)
  eq : Itf P w K mg base 1 C "__eq__" P_Page_eq (S_eq K C kd)
  nf : PySem.W.notFirst K C (.ref C) = true
  busy : Gf P w K mg base 20 "_law_busy_right" P__law_busy_right (S_busy K Cc C kd PT)
def S_law (K : PySem.W.Frag) (PT : Addr) : Sp := fun vs H Q _ => ∃ (x : V) (ns : List Int), vs = [x] ∧ Dp K H x (.list (ns.map .int)) ∧ ns.length ≤ 100 ∧ LamX.TabS H PT qL ∧ ∀ H', Q (.bl true) H'
theorem law_ok {fa Cc PT : Addr} {fd : FuncData} (F : FunD K "law" "law" (defArgs s_law) (defBody s_law) (defScope s_law) [] [] fa fd) (Gc : CoC K Cc) (B : Bi mg) (Gs : Gf P w K mg base 1 "_law_stream" P__law_stream (S_lstream K)) (Gd : Gf P w K mg base 1 "_law_draw" P__law_draw S_draw) (Gp : Gf P w K mg base 2 "_law_pick" P__law_pick S_pick)
    (Gw : Gf P w K mg base 2 "_law_width_drawn" P__law_width_drawn (S_widthd K)) (Ge : Gf P w K mg base 3 "_law_edit" P__law_edit (S_edit K)) (Gst : Gf P w K mg base 3 "_law_start" P__law_start (S_start K)) (Gm : Gf P w K mg base 7 "_law_made" P__law_made (S_made K)) (Mc : Mkc P w K mg base Cc)
    (Gsd : Gf P w K mg base 1 "_law_said" P__law_said (Spf K R_law_said)) (Gli : Gf P w K mg base 1 "_law_line" P__law_line (Spf K R_law_line)) (hk : ∀ ki, 0 ≤ ki → ki < 4 → Kd4 P w K mg base Cc PT (1 < ki) (clOf K ki) (kdOf ki)) : FnOkG P w K mg base (L2N.CX P w) 21 fa fd P_law (S_law K PT) := by
  obtain ⟨oc, od, dV, kV, doc, pm, an, cdv, ct, osl, rfl, lk, hcd, _, _⟩ := F.ex
  refine fn_ofG lk hcd sc_law (fun vs H Q E h => ?_) fun A outer s H vs Q E hr hgd h => ⟨fun D σ H => BlX _ _ σ H D, BlX.pss, ?_⟩
  · obtain ⟨_, _, rfl, _⟩ := h
    rfl
  · obtain ⟨x, ns, rfl, hx, hl, hT, hQ⟩ := h
    have S := sc_law
    have hr : Room 20 (cxOf (L2N.CX P w) P w K mg base N_law "law" (defScope s_law) fa cdv A outer s H E).A := hr
    have hgd : (cxOf (L2N.CX P w) P w K mg base N_law "law" (defScope s_law) fa cdv A outer s H E).A.guards = some [] := hgd
    have hr1 := hr.mono (show 1 ≤ 20 by decide)
    show BlX (cxOf (L2N.CX P w) P w K mg base N_law "law" (defScope s_law) fa cdv A outer s H E) (defBody s_law) _ _ _
    -- stream
    refine bl_set 1 S.nd rfl (.inl rfl) (w_call Gs hr1 (by rfl) (E := E0') passF (wa_cons ((v_var (v := x) 0 rfl (.inl rfl) rfl rfl rfl).go fun vx H1 e1 h1 => wa_nil ?_)))
    subst h1
    refine ⟨_, ns, rfl, dp_ex e1 hx, hl, fun a l0 l1 H2 e2 st2 _ _ _ => ?_⟩
    have hT2 := hT.ext (e1.trans e2)
    -- kind
    refine bl_set 2 S.nd rfl (.inl rfl) (w_draw Gd hr1 (by rfl) (v_var (v := .ref a) 1 rfl (.inl rfl) rfl rfl rfl) d_int st2 (by omega) (by decide) (by decide) fun ki H3 k0 k1 f3 st3 => ?_)
    have hT3 := tabs_frm hT2 f3
    have Z := hk ki k0 k1
    -- row
    refine bl_set 3 S.nd rfl (.inl rfl) (w_call Gst (hr.mono (by decide)) (by rfl) (E := E0') passF (wa_cons ((v_var (v := .ref a) 1 rfl (.inl rfl) rfl rfl rfl).go fun v1 H4 e4 h1 => wa_cons ((v_var (v := .int ki) 2 rfl (.inl rfl) rfl rfl rfl).go fun v2 H5 e5 h2 => wa_cons ((d_int (i := 16)).go fun v3 H6 e6 h3 => wa_nil ?_)))))
    cases h3
    subst h1 h2
    have e46 := e4.trans (e5.trans e6)
    refine ⟨a, l0, l1, _, ki, rfl, st3.ex' e46, by omega, k0, k1, fun rv H7 r hrow hfit hrv f7 st7 => ?_⟩
    have hT7 := tabs_frm (hT3.ext e46) f7
    -- the two pages
    refine bl_par 6 7 rfl S.nd rfl rfl (by decide) rfl rfl (wa_cons (w_call Gm (hr.mono (by decide)) (by rfl) (E := E0') passF (wa_cons ((v_var (v := .int ki) 2 rfl (.inl rfl) rfl rfl rfl).go fun v1 H8 e8 h1 => wa_cons ((v_var (v := rv) 3 rfl (.inl rfl) rfl rfl rfl).go fun v2 H9 e9 h2 => wa_nil ?_)))))
    subst h1 h2
    refine ⟨ki, _, r, rfl, k0, k1, dp_ex (e8.trans e9) hrv, hrow, hfit, fun p H10 e10 hp0 hpg => ?_⟩
    refine wa_cons (w_call Gm (hr.mono (by decide)) (by rfl) (E := E0') passF (wa_cons ((v_var (v := .int ki) 2 rfl (.inl rfl) rfl rfl rfl).go fun v1 H11 e11 h1 => wa_cons ((v_var (v := v2) 3 rfl (.inl rfl) rfl rfl rfl).go fun v3 H12 e12 h2 => wa_nil ?_))))
    subst h1 h2
    refine ⟨ki, _, r, rfl, k0, k1, dp_ex (e8.trans (e9.trans (e10.trans (e11.trans e12)))) hrv, hrow, hfit, fun q H13 e13 hq0 hqg => wa_nil ⟨_, _, rfl, ?_⟩⟩
    have e1013 := e11.trans (e12.trans e13)
    have e713 := e8.trans (e9.trans (e10.trans e1013))
    have hpq : p ≠ q := fun z => by
      obtain ⟨dx, fs, hi⟩ := pg_ins (hpg.ex (e11.trans e12))
      rw [z, hq0] at hi
      cases hi
    -- the console
    refine bl_set 4 S.nd rfl (.inl rfl) (w_makeC Mc (hr.mono (by decide)) (by rfl) (v_var (v := .ref p) 6 rfl (.inl rfl) rfl rfl rfl) fun c k H14 e14 hc0 hk0 hck hco => ?_)
    have st13 := st7.ex' e713
    obtain ⟨nk1, nk2, nk3⟩ := st13.ne hk0
    have N0 := new_nxt hrow hfit
    have W0 : Wd K Cc (clOf K ki) (kdOf ki) a l0 l1 c p q H14 100 k (Pg.new r) (Pg.new r) := ⟨(st13.ex' e14).mono (by omega), hco, hpg.ex (e1013.trans e14), hqg.ex e14, hpq, nk1.symm, nk2.symm, nk3.symm, N0.ok, N0.ok⟩
    have hT14 := hT7.ext (e713.trans e14)
    clear hpg hqg hco hc0 hk0 hq0 hp0 st13 st7 st3 st2 hT7 hT3 hT2 hT hx hrv f3 f7
    generalize clOf K ki = C at Z W0
    generalize kdOf ki = kd at Z W0 N0
    generalize Pg.new r = st0 at W0 N0
    -- the turns
    refine bl_forR (i := 5) (n := 14) po rfl S.nd (by rfl) B rfl rfl d_int (by decide) (fun m σ' H' => ∃ o5 o8 o9 o10 o11 o12 k' st', σ' = [some vx, some (.ref a), some (.int ki), some v3, some (.ref c), o5, some (.ref p), some (.ref q), o8, o9, o10, o11, o12] ∧ Wd K Cc C kd a l0 l1 c p q H' (100 + 100 * m) k' st' st' ∧ Nxt kd m st' ∧ LamX.TabS H' PT qL)
      (fun H1 e1 => ⟨_, _, _, _, _, _, k, st0, rfl, W0.ex e1, N0, hT14.ext e1⟩) (fun m σ' H' hm hP => ?_) fun σ' H' hP => ?_
    · obtain ⟨o5, o8, o9, o10, o11, o12, k, st, rfl, W, N, hT⟩ := hP
      obtain ⟨nn, hnn⟩ : ∃ nn, nn = 100 + 100 * m := ⟨_, rfl⟩
      rw [← hnn] at W
      have hn : nn ≤ 2000 := by omega
      have Nd := N.done
      have Nl := N.log
      show BlX _ _ [some vx, some (.ref a), some (.int ki), some v3, some (.ref c), some (.int (m : Nat)), some (.ref p), some (.ref q), o8, o9, o10, o11, o12] H' _
      -- the edit
      refine bl_set 8 S.nd rfl (.inl rfl) (w_call Gp (hr.mono (by decide)) (by rfl) (E := E0') passF (wa_cons ((v_var (v := .ref a) 1 rfl (.inl rfl) rfl rfl rfl).go fun v1 H1 e1 h1 => wa_cons (w_lst (wa_cons (w_call Ge (hr.mono (by decide)) (by rfl) (E := E0') passF (wa_cons ((v_var (v := .ref a) 1 rfl (.inl rfl) rfl rfl rfl).go fun v2 H2 e2 h2 => wa_cons ((d_prop (p := q) Z.G.cls Z.row (hr.mono (by decide)) (v_var 7 rfl (.inl rfl) rfl rfl rfl) ((W.ex (e1.trans e2)).qg) W.okq).go fun v4 H3 e3 h3 => wa_nil ?_)))))))))
      subst h1 h2
      have W3 := W.ex (e1.trans (e2.trans e3))
      refine ⟨a, l0, l1, nn, _, st.now, rfl, W3.sa, by omega, h3, W.okq.now.1, fun ev H4 ed hfit hev f4 st4 => ?_⟩
      have W4 := W3.drawn f4 st4
      have hT4 := tabs_frm (hT.ext (e1.trans (e2.trans e3))) f4
      refine wa_cons (w_tup (wa_cons ((d_str (x := "undo")).go fun y1 H5 e5 h1 => wa_nil ⟨by simp, fun t1 ht1 => ?_⟩)))
      cases h1
      refine wa_cons (w_tup (wa_cons ((d_str (x := "cut")).go fun y1 H6 e6 h1 => wa_cons ((d_int (i := 99)).go fun y2 H7 e7 h2 => wa_nil ⟨by simp, fun t2 ht2 => ?_⟩))))
      cases h1; cases h2
      refine wa_cons (w_tup (wa_cons ((d_str (x := "put")).go fun y1 H8 e8 h1 => wa_cons ((d_int (i := 0)).go fun y2 H9 e9 h2 => wa_cons ((d_int (i := 13)).go fun y3 H10 e10 h3 => wa_nil ⟨by simp, fun t3 ht3 => wa_nil ⟨by simp, fun il hil => wa_nil ?_⟩⟩)))))
      cases h1; cases h2; cases h3
      have x5 : Ex H5 (upd H5 t1 (.tup [.str "undo"])) := Ex.new ht1
      have x7 : Ex H7 (upd H7 t2 (.tup [.str "cut", .int 99])) := Ex.new ht2
      have x10 : Ex H10 (upd H10 t3 (.tup [.str "put", .int 0, .int 13])) := Ex.new ht3
      have y7 := e6.trans e7
      have y10 := e8.trans (e9.trans e10)
      have z7 : Ex H5 (upd H7 t2 (.tup [.str "cut", .int 99])) := x5.trans (y7.trans x7)
      have z10 : Ex H7 (upd H10 t3 (.tup [.str "put", .int 0, .int 13])) := x7.trans (y10.trans x10)
      have g1 : (upd H10 t3 (.tup [.str "put", .int 0, .int 13])) t1 = some (.tup [.str "undo"]) := (y7.trans z10) _ _ upd_same
      have g2 : (upd H10 t3 (.tup [.str "put", .int 0, .int 13])) t2 = some (.tup [.str "cut", .int 99]) := (y10.trans x10) _ _ upd_same
      have g3 : (upd H10 t3 (.tup [.str "put", .int 0, .int 13])) t3 = some (.tup [.str "put", .int 0, .int 13]) := upd_same
      have z4 : Ex H4 (upd H10 t3 (.tup [.str "put", .int 0, .int 13])) := e5.trans (x5.trans (y7.trans z10))
      generalize upd H10 t3 (.tup [.str "put", .int 0, .int 13]) = A10 at g1 g2 g3 z4 hil ⊢
      clear x5 x7 x10 y7 y10 z7 z10
      have items : ∀ u ∈ ([ev, .ref t1, .ref t2, .ref t3] : List V), ∃ e, Edit.can e ∧ Dp K A10 u (edD e) := fun u hu => by
        simp only [List.mem_cons, List.not_mem_nil, or_false] at hu
        rcases hu with rfl | rfl | rfl | rfl
        · refine ⟨ed, ?_, dp_ex z4 hev⟩
          cases ed <;> first | exact hfit | trivial
        · exact ⟨.undo, trivial, .tup (st_of g1) (.cons (.str _) .nil)⟩
        · exact ⟨.cut 99, ⟨by decide, by decide⟩, .tup (st_of g2) (.cons (.str _) (.cons (.int _) .nil))⟩
        · exact ⟨.put 0 13, ⟨⟨by decide, by decide⟩, by decide, by decide⟩, .tup (st_of g3) (.cons (.str _) (.cons (.int _) (.cons (.int _) .nil)))⟩
      have W10 := W4.ex z4
      obtain ⟨ni1, ni2, ni3⟩ := W10.sa.ne hil
      have x11 : Ex A10 (upd A10 il (.lst [ev, .ref t1, .ref t2, .ref t3])) := Ex.new hil
      have W11 := W10.ex x11
      refine ⟨a, l0, l1, _, il, _, rfl, W11.sa, by omega, upd_same, ni1.symm, ni2.symm, by simp, by simp, fun xv H12 hxv f12 st12 => ?_⟩
      obtain ⟨e, hcan, hxd⟩ := items xv hxv
      have W12 := W11.drawn f12 st12
      have hxd := f12.dp (noL_edit e) (dp_ex x11 hxd)
      have hT12 := tabs_frm (hT4.ext (z4.trans x11)) f12
      clear items hxv g1 g2 g3 z4 x11 hev W10 W11 W4 W3 hT4
      -- way, width
      refine bl_par 9 10 rfl S.nd rfl rfl (by decide) rfl rfl (wa_cons (w_draw Gd hr1 (by rfl) (v_var (v := .ref a) 1 rfl (.inl rfl) rfl rfl rfl) d_int W12.sa (by omega) (by decide) (by decide) fun way H13 w0 w1 f13 st13 => ?_))
      have W13 := W12.drawn f13 st13
      refine wa_cons (w_call Gp (hr.mono (by decide)) (by rfl) (E := E0') passF (wa_cons ((v_var (v := .ref a) 1 rfl (.inl rfl) rfl rfl rfl).go fun v1 H14 e14 h1 => wa_cons (w_lst (wa_cons (w_call Gw (hr.mono (by decide)) (by rfl) (E := E0') passF (wa_cons ((v_var (v := .ref a) 1 rfl (.inl rfl) rfl rfl rfl).go fun v2 H15 e15 h2 => wa_cons ((d_prop (p := q) Z.G.cls Z.row (hr.mono (by decide)) (v_var 7 rfl (.inl rfl) rfl rfl rfl) ((W13.ex (e14.trans e15)).qg) W.okq).go fun v4 H16 e16 h3 => wa_nil ?_)))))))))
      subst h1 h2
      have W16 := W13.ex (e14.trans (e15.trans e16))
      refine ⟨a, l0, l1, _, _, st.now, rfl, W16.sa, by omega, h3, W.okq.now.1, fun wd0 H17 d0 d1 f17 st17 => ?_⟩
      have W17 := W16.drawn f17 st17
      refine wa_cons ((d_int (i := 0)).go fun y1 H18 e18 h1 => wa_cons ((d_int (i := 2001)).go fun y2 H19 e19 h2 => wa_nil ⟨by simp, fun jl hjl => wa_nil ?_⟩))
      cases h1; cases h2
      obtain ⟨nj1, nj2, nj3⟩ := (W17.ex (e18.trans e19)).sa.ne hjl
      have x20 := e18.trans (e19.trans (Ex.new (o := .lst [.int wd0, .int 0, .int 2001]) hjl))
      have W20 := W17.ex x20
      refine ⟨a, l0, l1, _, jl, _, rfl, W20.sa, by omega, upd_same, nj1.symm, nj2.symm, by simp, by simp, fun wv H21 hwv f21 st21 => wa_nil ⟨_, _, rfl, ?_⟩⟩
      obtain ⟨wd, rfl, hsm⟩ : ∃ wd, wv = .int wd ∧ small wd := by
        simp only [List.mem_cons, List.not_mem_nil, or_false] at hwv
        rcases hwv with rfl | rfl | rfl
        · exact ⟨_, rfl, by omega, by omega⟩
        · exact ⟨_, rfl, by decide, by decide⟩
        · exact ⟨_, rfl, by decide, by decide⟩
      have W21 := W20.drawn f21 st21
      have F21 : FrM (Ms a l0) H12 H21 := f13.trans ((FrM.of (e14.trans (e15.trans e16))).trans (f17.trans ((FrM.of x20).trans f21)))
      have hxd := F21.dp (noL_edit e) hxd
      have hT21 := tabs_frm hT12 F21
      have Wz := W21.mono (m := nn + 28) (by omega)
      clear W21 W20 W17 W16 W13 W12 F21 f21 st21 f17 st17 f13 st13 f12 st12 hT12 hwv x20 st4 f4
      refine bl_ifM (fun σ' H' => ∃ o8 o9 o10 o11 o12 k' st', σ' = [some vx, some (.ref a), some (.int ki), some v3, some (.ref c), some (.int (m : Nat)), some (.ref p), some (.ref q), o8, o9, o10, o11, o12] ∧ Wd K Cc C kd a l0 l1 c p q H' (nn + 50) k' st' st' ∧ Nxt kd (m + 1) st' ∧ LamX.TabS H' PT qL) (EvB.go (b := way == 0) (b_eqI (x_var (d := .int way) 9 rfl (.inl rfl) rfl (.int _) rfl rfl) d_int) fun H22 e22 => ?_) fun σ' H' hM => ?_
      · have W22 := Wz.ex e22
        have hT22 := hT21.ext e22
        have hxd := dp_ex e22 hxd
        clear Wz hT21
        cases way == 0 with
        | true =>
          rw [if_pos rfl]
          refine bl_ifNo (t_neS (w_call Z.looked (hr.mono (by decide)) (by rfl) (E := E0') passF (wa_cons ((v_var (v := .ref a) 1 rfl (.inl rfl) rfl rfl rfl).go fun v1 H23 e23 h1 => wa_cons ((v_var (v := .ref p) 6 rfl (.inl rfl) rfl rfl rfl).go fun v2 H24 e24 h2 => wa_cons (w_lst (wa_cons ((v_var (v := .ref c) 4 rfl (.inl rfl) rfl rfl rfl).go fun v4 H25 e25 h3 => wa_cons (w_makeC Mc (hr.mono (by decide)) (by rfl) (v_var (v := .ref p) 6 rfl (.inl rfl) rfl rfl rfl) fun c2 k2 H26 e26 hc2 hk2 hck2 hco2 => wa_nil ⟨by simp, fun cl hcl => wa_cons ((v_var (v := .int wd) 10 rfl (.inl rfl) rfl rfl rfl).go fun v5 H27 e27 h4 => wa_nil ?_)⟩)))))))))
          subst h1 h2 h3 h4
          have e2225 := e23.trans (e24.trans e25)
          have W25 := W22.ex e2225
          have W26 := W25.ex e26
          have xn : Ex H26 (upd H26 cl (.lst [.ref c, .ref c2])) := Ex.new hcl
          have hcl27 : H27 cl = some (.lst [.ref c, .ref c2]) := e27 _ _ upd_same
          obtain ⟨nl1, nl2, nl3⟩ := W26.sa.ne hcl
          obtain ⟨nk1, nk2, nk3⟩ := W25.sa.ne hk2
          have ncc : c ≠ c2 := fun z => by
            obtain ⟨dx, fs, hi⟩ := co_ins W25.co
            rw [z, hc2] at hi
            cases hi
          have nqc : q ≠ c2 := fun z => by
            obtain ⟨dx, fs, hi⟩ := pg_ins W25.qg
            rw [z, hc2] at hi
            cases hi
          have x27 := xn.trans e27
          have W27 := W26.ex x27
          have hco27 := hco2.ex x27
          have hT27 := hT22.ext (e2225.trans (e26.trans x27))
          generalize upd H26 cl (.lst [.ref c, .ref c2]) = A26 at e27 xn x27
          refine ⟨a, l0, l1, _, p, cl, wd, c, c2, k, k2, st, rfl, W27.sa, by omega, hcl27, nl1.symm, nl2.symm, W27.co, hco27, W27.ka, W27.k0, nk1.symm, nk2.symm, ncc, W27.pg, W27.okp, by omega, hsm, fun H28 k' f28 hk' st28 co28 pg28 => ?_⟩
          have iq := W27.ins (b := q) (.inr (.inr rfl))
          have nq : ¬ (Ms a l0 q ∨ q = p ∨ q = c ∨ q = c2) := fun z => by
            rcases z with (z | z) | z | z | z
            · exact iq.1 z.symm
            · exact iq.2.1 z.symm
            · exact W27.pq z.symm
            · exact W27.cq z.symm
            · exact nqc z
          have nk : k' ≠ a ∧ k' ≠ l0 ∧ k' ≠ l1 := by
            rcases hk' with rfl | hk'
            · exact ⟨W27.ka, W27.k0, W27.k1⟩
            · obtain ⟨m1, m2, m3⟩ := W27.sa.ne hk'
              exact ⟨m1.symm, m2.symm, m3.symm⟩
          have N2 := N.look (wd := wd)
          have W28 : Wd K Cc C kd a l0 l1 c p q H28 (nn + 28 + 1) k' (cmdR kd st (.qy (.look wd))).2 st := ⟨st28, co28, pg28, W27.qg.frm f28 nq, W27.pq, nk.1, nk.2.1, nk.2.2, N2.ok, N.ok⟩
          have hT28 := tabs_frm hT27 f28
          refine w_call Z.look (hr.mono (by decide)) (by rfl) (E := E0') passF (wa_cons ((v_var (v := .ref q) 7 rfl (.inl rfl) rfl rfl rfl).go fun v1 H29 e29 h1 => wa_cons ((v_var (v := .int wd) 10 rfl (.inl rfl) rfl rfl rfl).go fun v2 H30 e30 h2 => wa_nil ?_)))
          subst h1 h2
          have W30 := W28.ex (e29.trans e30)
          refine ⟨q, st, wd, rfl, W30.qg, N.ok, fun H31 f31 hq31 => ⟨_, rfl, rfl, rfl, bl_nil ⟨_, _, _, _, _, k', _, rfl, (W30.setQ f31 hq31 N2.ok).mono (by omega), N2.mono (by omega), tabs_frm (hT28.ext (e29.trans e30)) (FrM.ofI f31)⟩⟩⟩
        | false =>
          rw [if_neg (by decide)]
          refine bl_set 11 S.nd rfl (.inl rfl) (w_call Z.did (hr.mono (by decide)) (by rfl) (E := E0') passF (wa_cons ((v_var (v := .ref q) 7 rfl (.inl rfl) rfl rfl rfl).go fun v1 H23 e23 h1 => wa_cons ((v_var (v := xv) 8 rfl (.inl rfl) rfl rfl rfl).go fun v2 H24 e24 h2 => wa_nil ?_))))
          subst h1
          subst h2
          have W24 := W22.ex (e23.trans e24)
          have hxd := dp_ex (e23.trans e24) hxd
          refine ⟨q, _, st, e, rfl, W24.qg, N.ok, by omega, hxd, fun _ => hcan, fun dv d H25 f25 hq25 hout hdv => ?_⟩
          have N2 := N.aft hcan
          have W25 := W24.setQ f25 hq25 N2.ok
          have hT25 := tabs_frm (hT22.ext (e23.trans e24)) (FrM.ofI f25)
          have hxd := f25.dp hxd
          obtain ⟨nm, dd, rfl, hoo, hsaid, htx⟩ := said_of hout N2.ok.few
          refine bl_set 12 S.nd rfl (.inl rfl) (WpX.imp (Q := fun v H1 => v = .str (cmdR kd st (.ed e)).1 ∧ ∃ k1, Wd K Cc C kd a l0 l1 c p q H1 (nn + 28) k1 (aftP st (st.act kd e)) (aftP st (st.act kd e)) ∧ Dp K H1 dv (.list [.str nm, dd]) ∧ LamX.TabS H1 PT qL) (.of (pe_ifExp tt pp pp) ?_) fun v H1 ⟨hv, k1, W1, hd1, hT1⟩ => ?_)
          · show WtX _ _ _ _ _
            refine EvB.go (b := way == 1) (b_eqI (x_var (d := .int way) 9 rfl (.inl rfl) rfl (.int _) rfl rfl) d_int) fun H26 e26 => ?_
            have W26 := W25.ex e26
            have hxd := dp_ex e26 hxd
            have hdv := dp_ex e26 hdv
            have hT26 := hT25.ext e26
            cases way == 1 with
            | true =>
              show WpX _ _ _ _ _
              refine w_call Gsd hr1 (by rfl) (E := E0') passF (wa_cons (w_call Z.did (hr.mono (by decide)) (by rfl) (E := E0') passF (wa_cons ((v_var (v := .ref p) 6 rfl (.inl rfl) rfl rfl rfl).go fun v1 H27 e27 h1 => wa_cons ((v_var (v := v2) 8 rfl (.inl rfl) rfl rfl rfl).go fun v5 H28 e28 h2 => wa_nil ?_)))))
              subst h1
              subst h2
              have W28 := W26.ex (e27.trans e28)
              refine ⟨p, _, st, e, rfl, W28.pg, N.ok, by omega, dp_ex (e27.trans e28) hxd, fun _ => hcan, fun dv2 d2 H29 f29 hp29 hout2 hdv2 => wa_nil ?_⟩
              obtain ⟨nm2, dd2, rfl, hoo2, hsaid2, _⟩ := said_of hout2 N2.ok.few
              refine ⟨[_], _, ⟨nm2, dd2, rfl, hoo2, rfl⟩, .cons hdv2 .nil, fun v' H30 e30 hv' => ?_⟩
              refine ⟨by rw [dp_str hv', hsaid2], k, (W28.setP f29 hp29 N2.ok).ex e30, dp_ex e30 (f29.dp (dp_ex (e27.trans e28) hdv)), (tabs_frm (hT26.ext (e27.trans e28)) (FrM.ofI f29)).ext e30⟩
            | false =>
              show WpX _ _ _ _ _
              obtain ⟨ps, hps, hpl, hpo, hline⟩ := line_of hcan
              refine w_meth (E := E0') (p := c) Gc.cls Z.exec (hr.mono (by decide)) passF ((v_var (v := .ref c) 4 rfl (.inl rfl) rfl rfl rfl).go fun u H27 e27 hu => ?_)
              obtain ⟨dxc, ds, hc27, _⟩ := id (W26.ex e27).co
              refine ⟨hu, dxc, _, hc27, rfl, wa_cons ((d_call Gli hr1 (by rfl) (ds := [edD e]) (a_cons (x_var 8 rfl (.inl rfl) rfl (dp_ex e27 hxd) rfl rfl) a_nil) ⟨ps, by rw [hps], hpl, hpo, rfl⟩).go fun y H28 e28 hy => wa_nil ?_)⟩
              rw [hline] at hy
              have W28 := W26.ex (e27.trans e28)
              refine ⟨c, p, k, st, y, .ed e, rfl, W28.co, W28.pg, N.ok, by omega, hy, ?_, ?_, fun H29 l' f29 hl0 hp29 hco29 => ?_⟩
              · exact ints_of hcan
              · exact fun _ => hcan
              rw [cmd_aft] at hp29
              exact ⟨rfl, l', W28.told f29 hl0 hp29 hco29 N2.ok, f29.dp (dp_ex (e27.trans e28) hdv), tabs_frm (hT26.ext (e27.trans e28)) (FrM.ofI f29)⟩
          · subst hv
            refine bl_ifNo (t_neS (w_reprS (by rfl) B ((v_var (v := .str (cmdR kd st (.ed e)).1) 12 rfl (.inl rfl) rfl rfl rfl).go fun v1 H2 e2 h1 => ⟨_, h1, htx, ?_⟩)))
            show WpX _ _ _ _ _
            refine w_reprS (by rfl) B ((d_call Gsd hr1 (by rfl) (ds := [.list [.str nm, dd]]) (a_cons (x_var 11 rfl (.inl rfl) rfl (dp_ex e2 hd1) rfl rfl) a_nil) ⟨nm, dd, rfl, hoo, rfl⟩).go fun v2 H3 e3 h2 => ?_)
            rw [hsaid] at h2
            exact ⟨_, dp_str h2, htx, _, rfl, rfl, rfl, bl_nil ⟨_, _, _, _, _, k1, _, rfl, (W1.ex (e2.trans e3)).mono (by omega), N2, hT1.ext (e2.trans e3)⟩⟩
      · obtain ⟨o8, o9, o10, o11, o12, k, st, rfl, W, N, hT⟩ := hM
        have Nl := N.log
        refine bl_ifNo (t_tot (t_orF (t_not (t_val (w_call Z.qr (hr.mono (by decide)) (by rfl) (E := E0') passF (wa_cons ((v_var (v := .ref a) 1 rfl (.inl rfl) rfl rfl rfl).go fun v1 H1 e1 h1 => wa_cons ((v_var (v := .ref c) 4 rfl (.inl rfl) rfl rfl rfl).go fun v2 H2 e2 h2 => wa_cons ((v_var (v := .ref q) 7 rfl (.inl rfl) rfl rfl rfl).go fun v4 H3 e3 h3 => wa_nil ?_)))))))))
        subst h1 h2 h3
        have e13 := e1.trans (e2.trans e3)
        refine ⟨a, l0, l1, c, p, q, _, k, st, st, rfl, W.ex e13, by omega, ⟨rfl, rfl⟩, by omega, fun H4 k4 f4 W4 => ⟨true, rfl, rfl, ?_⟩⟩
        have hT4 := tabs_frm (hT.ext e13) f4
        refine t_or1 (t_neS (w_callG Z.seen (hr.mono (by decide)) hgd (by rfl) (E := E0') passF (wa_cons ((v_var (v := .ref p) 6 rfl (.inl rfl) rfl rfl rfl).go fun v1 H5 e5 h1 => wa_nil ?_))))
        subst h1
        refine ⟨p, st, rfl, (W4.ex e5).pg, N.ok, fun H6 e6 => ?_⟩
        refine w_callG Z.seen (hr.mono (by decide)) hgd (by rfl) (E := E0') passF (wa_cons ((v_var (v := .ref q) 7 rfl (.inl rfl) rfl rfl rfl).go fun v1 H7 e7 h1 => wa_nil ?_))
        subst h1
        have e47 := e5.trans (e6.trans e7)
        refine ⟨q, st, rfl, (W4.ex e47).qg, N.ok, fun H8 e8 => ⟨_, rfl, rfl, rfl, ?_⟩⟩
        have e48 := e47.trans e8
        have W8 := W4.ex e48
        have hr2 : Room 2 (cxOf (L2N.CX P w) P w K mg base N_law "law" (defScope s_law) fa cdv A outer s H E).A := hr.mono (by decide)
        refine bl_when (k := false) (EvB.is (EvW.tob (w_or (b_not (b_eqP Z.eq Z.nf hr1 (v_var (v := .ref p) 6 rfl (.inl rfl) rfl rfl rfl) (v_var (v := .ref q) 7 rfl (.inl rfl) rfl rfl rfl) W8.pg W8.qg)) fun _ => w_or (b_ne (r64 hr) (d_prop (p := p) Z.G.cls Z.width hr2 (v_var 6 rfl (.inl rfl) rfl rfl rfl) W8.pg N.ok) (d_prop (p := q) Z.G.cls Z.width hr2 (v_var 7 rfl (.inl rfl) rfl rfl rfl) W8.qg N.ok) (shaped_opt _) (shaped_opt _)) fun _ => w_or1 (EvW.tob (w_and (b_gt (x_var (d := .int ki) 2 rfl (.inl rfl) rfl (.int _) rfl rfl) d_int) fun hk2 => w_and1 (b_ne (r64 hr) (d_prop (p := p) Z.G.cls (Z.log (of_decide_eq_true hk2)) hr2 (v_var 6 rfl (.inl rfl) rfl rfl rfl) W8.pg N.ok) (d_prop (p := q) Z.G.cls (Z.log (of_decide_eq_true hk2)) hr2 (v_var 7 rfl (.inl rfl) rfl rfl rfl) W8.qg N.ok) (shaped_log N.lok) (shaped_log N.lok)))))) ?_) (fun hk2 => by cases hk2) fun _ H9 e9 => bl_nil ⟨_, _, _, _, _, _, k4, st, rfl, (W8.ex e9).mono (by omega), N, hT4.ext (e48.trans e9)⟩
        rw [show PyData.eqv (rowD st.now) (rowD st.now) = true from eqv_sh (shaped_row st.now), show PyData.eqv (r_width st) (r_width st) = true from eqv_opt _, show PyData.eqv (r_log st) (r_log st) = true from eqv_sh (shaped_log N.lok)]
        simp
    · obtain ⟨o5, o8, o9, o10, o11, o12, k', st, rfl, W, N, hT⟩ := hP
      refine bl_ret (w_andW (w_call Z.busy hr (by rfl) (E := E0') passF (wa_cons ((v_var (v := .ref a) 1 rfl (.inl rfl) rfl rfl rfl).go fun v1 H1 e1 h1 => wa_cons ((v_var (v := .ref c) 4 rfl (.inl rfl) rfl rfl rfl).go fun v2 H2 e2 h2 => wa_cons ((v_var (v := .ref p) 6 rfl (.inl rfl) rfl rfl rfl).go fun v3 H3 e3 h3 => wa_cons ((v_var (v := .ref q) 7 rfl (.inl rfl) rfl rfl rfl).go fun v4 H4 e4 h4 => wa_nil ?_)))))))
      subst h1 h2 h3 h4
      have e14 := e1.trans (e2.trans (e3.trans e4))
      refine ⟨a, l0, l1, c, p, q, _, k', st, rfl, W.ex e14, by omega, N.busy, by have := N.done; omega, by have := N.log; omega, hT.ext e14, fun H5 st1 st2 hp5 hq5 ok1 ok2 hnow hdone => ⟨rfl, ?_⟩⟩
      refine w_last (w_eqS (w_callG Z.seen (hr.mono (by decide)) hgd (by rfl) (E := E0') passF (wa_cons ((v_var (v := .ref p) 6 rfl (.inl rfl) rfl rfl rfl).go fun v1 H6 e6 h1 => wa_nil ?_))))
      subst h1
      refine ⟨p, st1, rfl, hp5.ex e6, ok1, fun H7 e7 => ?_⟩
      refine w_callG Z.seen (hr.mono (by decide)) hgd (by rfl) (E := E0') passF (wa_cons ((v_var (v := .ref q) 7 rfl (.inl rfl) rfl rfl rfl).go fun v1 H8 e8 h1 => wa_nil ?_))
      subst h1
      refine ⟨q, st2, rfl, hq5.ex (e6.trans (e7.trans e8)), ok2, fun H9 e9 => ⟨_, rfl, ?_, hQ H9⟩⟩
      have : seenD st2 = seenD st1 := by unfold seenD r_row r_size r_version r_edits r_str strText; rw [hnow, hdone]
      rw [this]
end
end TX
end
section
namespace HF
open PySem PySem.Spec PyProof.Rows L2 TX MM
/-- the law's call begins so: its table empty, its script fixed (where K does not hold it) -/
def law0 (K : PySem.W.Frag) (PT a : Addr) (so : Obj) (xs : List V) : Hp := fun b => if b = PT then some (.tbl #[]) else if b = a ∧ K.lookup a = none then some (.frz so (.lst xs)) else none
section
variable {K : PySem.W.Frag} {PT a : Addr} {so : Obj} {xs : List V}
theorem law0_tab : law0 K PT a so xs PT = some (.tbl #[]) := if_pos rfl
theorem law0_out {b : Addr} {u : HO} (e : law0 K PT a so xs b = some u) : (b = PT ∧ u = .tbl #[]) ∨ (b = a ∧ b ≠ PT ∧ K.lookup a = none ∧ u = .frz so (.lst xs)) := by
  unfold law0 at e
  split at e
  · exact .inl ⟨‹_›, (Option.some.inj e).symm⟩
  · split at e
    · rename_i h1 h2
      exact .inr ⟨h2.1, h1, h2.2, (Option.some.inj e).symm⟩
    · cases e
theorem law0_no {b : Addr} (h1 : b ≠ PT) (h2 : b ≠ a) : law0 K PT a so xs b = none := by
  unfold law0
  rw [if_neg h1, if_neg fun z => h2 z.1]
theorem law0_script (h1 : a ≠ PT) (h2 : K.lookup a = none) : law0 K PT a so xs a = some (.frz so (.lst xs)) := by
  unfold law0
  rw [if_neg h1, if_pos ⟨rfl, h2⟩]
end
section
variable {P : Program} {w : World} {K : PySem.W.Frag} {mg mb : Str → Option Value} {fa a cb PT : Addr} {fd : FuncData} {s₁ : Shared} {vs : List Value} {ns : List Int}
theorem end_call (KX : K.In s₁.heap) (G : s₁.heap.Ns mainGlobals mg) (Gb : s₁.heap.Ns builtinsNs mb) (bbs : ∀ x : Str, x ≠ "__name__" → mb x = bootBuiltins x) (lim : s₁.heap.NoLimit) (gens : s₁.gens = #[]) (tb : s₁.heap.get? PT = some { cls := .none, data := .fields #[] }) (tK : K.lookup PT = none) (cd : PySem.W.CodeHd s₁.heap cb PT)
    (bmod : ∃ (bm : Addr) (ob : Obj), mg "__builtins__" = some (.ref bm) ∧ bm ≠ builtinsNs ∧ s₁.heap.get? bm = some ob ∧ ob.cls = .type "module" ∧ ob.dict = some builtinsNs ∧ ob.data = .plain) (sc : s₁.heap.get? a = some { cls := .type "list", data := .seq vs.toArray }) (hi : IntsAre vs ns) (hl : ns.length ≤ 100) (hr : Room 21 callerA)
    (F : ∀ base : Heap, K.In base → base.Ns mainGlobals mg → LamX.TabB base mg cb PT → FnOkG P w K mg base (L2N.CX P w) 21 fa fd P_law (S_law K PT)) (bind : ∀ (s : Shared) (u : Value), BindsTo s fd ⟨[u], []⟩ [("_law_script", u)]) :
    codeAny (model P w) callerA (.call (.ref fa) ⟨[.ref a], []⟩) (fun r s' => r = .ok (.ret (.bool true)) ∧ OldK s₁.heap s'.heap ∧ s'.os = s₁.os ∧ AllBare s'.gens) s₁ := by
  have rv := vals_ints hi
  have big : ns.length ≤ sizeLine := by rw [sizeLine_eq]; omega
  have nap : a ≠ PT := fun z => by
    rw [z, tb] at sc
    exact absurd (congrArg Obj.data (Option.some.inj sc)) (fun y => by cases y)
  obtain ⟨H, hH⟩ : ∃ H, H = law0 K PT a { cls := .type "list", data := .seq vs.toArray } (ns.map V.int) := ⟨_, rfl⟩
  have out : ∀ {b u}, H b = some u → (b = PT ∧ u = .tbl #[]) ∨ (b = a ∧ b ≠ PT ∧ K.lookup a = none ∧ u = .frz { cls := .type "list", data := .seq vs.toArray } (.lst (ns.map V.int))) := fun {b u} e => by
    rw [hH] at e
    exact law0_out e
  have hok : HOk P w H s₁.heap := fun b u e => by
    rcases out e with ⟨rfl, rfl⟩ | ⟨rfl, _, _, rfl⟩
    · exact tb
    · exact ⟨sc, by rw [List.length_map]; exact big, vs, _, rv, sc⟩
  -- what is no list and no empty table is not tracked
  have off : ∀ {b o}, s₁.heap.get? b = some o → (∀ its n, o.data ≠ .seq its n) → o.data ≠ .fields #[] → H b = none := fun {b o} e h1 h2 => by
    cases hb : H b with
    | none => rfl
    | some u =>
      rcases out hb with ⟨rfl, _⟩ | ⟨rfl, _⟩
      · rw [tb] at e
        exact absurd (congrArg Obj.data (Option.some.inj e)).symm h2
      · rw [sc] at e
        exact absurd (congrArg Obj.data (Option.some.inj e)).symm (h1 _ _)
  have hid : ∀ {b o}, s₁.heap.get? b = some o → (∀ its n, o.data ≠ .seq its n) → o.data ≠ .fields #[] → (hidT s₁.heap H).get? b = some o := fun e h1 h2 => hidT_get e (off e h1 h2)
  have nsH : ∀ {b : Addr} {m : Str → Option Value}, s₁.heap.Ns b m → (hidT s₁.heap H).Ns b m := fun {b m} ⟨o, es, ep, e, d, r⟩ => ⟨o, es, ep, hid e (fun its n z => by rw [d] at z; cases z) (fun z => by rw [d] at z; cases z), d, r⟩
  have kin : K.In (hidT s₁.heap H) := fun b o e => hidT_get (KX b o e) (by
    cases hb : H b with
    | none => rfl
    | some u =>
      rcases out hb with ⟨rfl, _⟩ | ⟨rfl, _, z, _⟩
      · rw [tK] at e; cases e
      · rw [z] at e; cases e)
  have gp : mainGlobals ≠ PT := fun z => by
    obtain ⟨o, es, ep, e, d, _⟩ := G
    rw [z, tb] at e
    rw [← Option.some.inj e] at d
    cases d
  have TB : LamX.TabB (hidT s₁.heap H) mg cb PT := by
    refine ⟨?_, ?_, gp⟩
    · obtain ⟨o, us, file, tf, flags, tg, inF, text, tt, e1, r1, r2, r3, rest⟩ := cd
      refine ⟨o, us, file, tf, flags, tg, inF, text, tt, hid e1 (fun its n z => by rw [r2] at z; cases z) (fun z => ?_), r1, r2, r3, rest⟩
      rw [r2] at z
      rw [Data.fields.inj z] at r3
      simp at r3
    · obtain ⟨bm, ob, b1, b2, b3, b4, b5, b6⟩ := bmod
      refine ⟨bm, ob, b1, b2, fun z => ?_, fun z => ?_, hid b3 (fun its n z => by rw [b6] at z; cases z) (fun z => by rw [b6] at z; cases z), b4, b5, b6⟩
      · obtain ⟨o, es, ep, e, d, _⟩ := G
        rw [← z, b3] at e
        rw [← Option.some.inj e, b6] at d
        cases d
      · rw [z, tb] at b3
        rw [← Option.some.inj b3] at b6
        cases b6
  have mod : L2.Mod K mg (hidT s₁.heap H) := ⟨kin, nsH G, ⟨mb, nsH Gb, bbs⟩, let ⟨mc, c1, c2⟩ := lim; ⟨mc, nsH c1, c2⟩⟩
  have e0 : Env0 P w K mg (hidT s₁.heap H) callerA [] s₁ H := ⟨rfl, mod, fun _ _ e => of_hidT e, Nat.le_of_eq (hidT_size ..), trivial, (fun b hb => nomatch (show b ∈ ([] : List Addr) from hb)), hok, .of_eq gens⟩
  have hS : SqL K H a (ns.map V.int) := by
    cases hk : K.lookup a with
    | none => exact .inl (.inr ⟨_, by rw [hH]; exact law0_script nap hk⟩)
    | some o =>
      have z := KX a o hk
      rw [sc] at z
      rw [← Option.some.inj z] at hk
      exact .inr ⟨_, vs.toArray, _, hk, rfl, rfl, rfl, by rw [List.size_toArray, hi.length]; exact big, by simpa using rv⟩
  have hT : LamX.TabS H PT qL := tabs_nil (by rw [hH]; exact law0_tab)
  refine codeAny_mono ((F _ kin (nsH G) TB).run callerA [] s₁ H ⟨[.ref a], []⟩ [.ref a] [.ref a] (fun v _ => v = .bl true) (fun _ _ _ => False) hr rfl e0 (bind s₁ (.ref a)) (.cons rfl .nil) ⟨.ref a, ns, rfl, .lst hS (ints_dpa ns), hl, hT, fun _ => rfl⟩) fun r s' h => ?_
  match r, h with
  | .error e, h =>
    obtain ⟨_, _, _, _, _, _, _, _, _, _, _, _, z⟩ := (show L2N.CX P w [] H s₁ (fun _ _ _ => False) e s' from h)
    exact z.elim
  | .ok .next, h => exact (show False from h).elim
  | .ok .brk, h => exact (show False from h).elim
  | .ok .cont, h => exact (show False from h).elim
  | .ok (.ret u), h =>
    obtain ⟨v, H', os, bare, un, hok', ru, hv⟩ := (show CE [] P w H s₁ (fun v _ => v = .bl true) u s' from h)
    have hv : v = .bl true := hv
    subst hv
    obtain rfl : u = Value.bool true := ru
    obtain ⟨more, hm⟩ : ∃ more : Array Value, s'.heap.get? PT = some { cls := .none, data := .fields more } := by
      obtain ⟨more, z⟩ := un.tbls PT #[] (by rw [hH]; exact law0_tab)
      exact ⟨_, hok' PT _ z⟩
    have keep : ∀ {b o}, b ≠ PT → s₁.heap.get? b = some o → s'.heap.get? b = some o := fun {b o} nb e => by
      cases hb : H b with
      | none => exact un.keep b o e hb (fun z => nomatch (show b ∈ ([] : List Addr) from z)) (fun z => nomatch z)
      | some t =>
        rcases out hb with ⟨z, _⟩ | ⟨rfl, _, _, rfl⟩
        · exact absurd z nb
        · have z := (hok' b _ (un.frzs b _ _ hb)).1
          rw [sc] at e
          rw [← Option.some.inj e]
          exact z
    refine ⟨rfl, ⟨fun b o e => ?_, fun b o e => ?_⟩, os, bare⟩
    · by_cases nb : b = PT
      · subst nb
        rw [tb] at e
        rw [← Option.some.inj e]
        exact .inr (.inl ⟨(cd.tab tb).isCodeTable, rfl, #[], more, rfl, by rw [Array.empty_append]; exact hm⟩)
      · exact .inl (keep nb e)
    · by_cases nb : b = PT
      · rw [nb]
        exact ⟨_, hm⟩
      · exact ⟨o, keep nb e⟩
end
end HF
end
section
namespace HF
open PySem PySem.Spec PyProof.Rows L2 TX
/-! ### what the facts say -/
section
variable {K : PySem.W.Frag} {h : Heap} {mg : Str → Option Value} {w : World}
theorem e_of {a b : Option (Option Value)} (h : eqO a b = true) : a = b := of_decide_eq_true h
theorem Fd.look {d : Fd} (e : fnT K (d.at_ K) = d.val) (c : d.ok K = true) : PySem.W.keepIn K (.ref (d.at_ K)) = true ∧ ∃ oc od osl kV doc pm an cdv ct cl, K.lookup (d.at_ K) = some ⟨oc, od, .func { PySem.W.fnOf d.name d.qual (defArgs d.st) (defBody d.st) (defScope d.st) .none kV doc pm an cdv ct with closure := cl }, osl⟩ ∧ cl.map (·.1) = d.cl ∧ PySem.W.codeIn K cdv d.qual = true ∧ KwdV K kV (d.kws K) := by
  obtain ⟨kp, c2⟩ := He.ba c
  refine ⟨kp, ?_⟩
  unfold fnT at e
  cases q : K.lookup (d.at_ K) with
  | none => rw [q] at c2; cases c2
  | some o =>
    obtain ⟨oc, od, dt, osl⟩ := o
    rw [q] at c2 e
    cases dt with
    | func fd =>
      obtain ⟨f1, f2, f3, f4, f5, f6, f7, f8, f9, f10, f11, f12, f13, f14, f15⟩ := fd
      have e2 : (some (f1, f2, f3, f4, f5, f6, f7.map (·.1), f15) : FnT) = some (d.name, d.qual, defArgs d.st, .stmts (defBody d.st), defScope d.st, mainGlobals, d.cl, builtinsNs) := e
      simp only [Option.some.injEq, Prod.mk.injEq] at e2
      obtain ⟨a1, a2, a3, a4, a5, a6, a7, a8⟩ := e2
      have c3 : (PySem.W.codeIn K f13 d.qual && (He.dflB K f8 [] && He.kwdB K f9 (d.kws K))) = true := c2
      obtain ⟨k1, k2⟩ := He.ba c3
      obtain ⟨k3, k4⟩ := He.ba k2
      have k5 : f8 = .none := by
        cases f8 with
        | none => rfl
        | _ => cases k3
      subst a1 a2 a3 a4 a5 a6 a8 k5
      exact ⟨oc, od, osl, f9, f10, f11, f12, f13, f14, f7, rfl, a7, k1, He.kwdB_ok k4⟩
    | _ => cases c2
theorem Fd.fun {d : Fd} (e : fnT K (d.at_ K) = d.val) (c : d.ok K = true) (hcl : d.cl = []) : ∃ fd, FunD K d.name d.qual (defArgs d.st) (defBody d.st) (defScope d.st) [] (d.kws K) (d.at_ K) fd := by
  obtain ⟨kp, oc, od, osl, kV, doc, pm, an, cdv, ct, cl, lk, h1, h2, h3⟩ := Fd.look e c
  have : cl = [] := by
    rw [hcl] at h1
    cases cl with
    | nil => rfl
    | cons _ _ => cases h1
  subst this
  exact ⟨_, ⟨oc, od, .none, kV, doc, pm, an, cdv, ct, osl, rfl, lk, h2, .inl ⟨rfl, rfl⟩, h3⟩, kp⟩
theorem sscope_of {ps : List Str} {sc : Scope} (h : (decide (sc.kind = .function) && (!sc.isCoroutine && (!sc.isGenerator && (decide ps.Nodup && (ps.all (fun x => decide (sc.names.lookup x = some .local)) && (sc.names.all (fun y => !decide (y.2 = .cell)) && (sc.names.all (fun y => !decide (y.2 = .free) || decide (y.1 = ("__class__" : Str))) && (decide (sc.names.lookup ("__class__" : Str) = some .free) && decide (sc.names.lookup ("super" : Str) = some .globalImplicit))))))))) = true) : W1.SScope ps sc := by
  simp only [Bool.and_eq_true, Bool.not_eq_true', decide_eq_true_eq, List.all_eq_true, Bool.or_eq_true, decide_eq_false_iff_not] at h
  obtain ⟨h1, h2, h3, h4, h5, h6, h7, h8, h9⟩ := h
  exact ⟨h1, h2, h3, h4, h5, h6, fun y hy e => (h7 y hy).elim (fun z => absurd e z) id, h8, h9⟩
theorem sup_top : (PySem.Challenge.pw_wrapwidths_k97_whole_console_beside_a_pa.main.scope.names.lookup ("super" : Str)).isSome = false := by kernel_rfl
theorem Fd.sup {d : Fd} {m : Str} {ps : List Str} (e : fnT K (d.at_ K) = d.val) (c : d.ok K = true) (hcl : d.cl = (["__class__"] : List Str)) (hat : d.at_ = mA "LoggedPage" m) (hc : cellB K theFile m = true) (hs : W1.SScope ps (defScope d.st)) (har : ∃ ar, ((defArgs d.st).posonlyargs ++ (defArgs d.st).args).head? = some ar ∧ ps[0]? = some ar.arg) :
    ∃ c kV doc pm an cdv ct oc od osl, W1.SFr PySem.Challenge.pw_wrapwidths_k97_whole_console_beside_a_pa K (mA "LoggedPage" m K) c (He.ga K "LoggedPage") d.name d.qual (defArgs d.st) (defBody d.st) (defScope d.st) .none kV doc pm an cdv ct oc od osl ps ∧ PySem.W.codeIn K cdv d.qual = true ∧ KwdV K kV (d.kws K) := by
  obtain ⟨kp, oc, od, osl, kV, doc, pm, an, cdv, ct, cl, lk, h1, h2, h3⟩ := Fd.look e c
  rw [hcl] at h1
  obtain ⟨x, rfl, hx⟩ : ∃ x, cl = [x] ∧ x.1 = "__class__" := by
    cases cl with
    | nil => cases h1
    | cons x r =>
      cases r with
      | nil => exact ⟨x, rfl, (List.cons.inj h1).1⟩
      | cons y r => cases (List.cons.inj h1).2
  obtain ⟨x1, x2⟩ := x
  have hx : x1 = "__class__" := hx
  subst hx
  rw [hat] at lk
  unfold cellB at hc
  rw [lk] at hc
  dsimp only at hc
  cases cdv with
  | ref cc =>
    dsimp only at hc
    cases q1 : K.lookup x2 with
    | none => rw [q1] at hc; cases hc
    | some o1 =>
      cases q2 : K.lookup cc with
      | none => rw [q1, q2] at hc; obtain ⟨_, _, dt, _⟩ := o1; cases dt <;> first | cases hc | (rename_i z; cases z <;> first | cases hc | (rename_i z; cases z <;> cases hc))
      | some o2 =>
        rw [q1, q2] at hc
        obtain ⟨a1, a2, a3, a4⟩ := o1
        obtain ⟨b1, b2, b3, b4⟩ := o2
        cases a3 with
        | cell z =>
          cases z with
          | none => cases hc
          | some v =>
            cases v with
            | ref dd =>
              cases b3 with
              | fields vs =>
                obtain ⟨g1, g2⟩ := He.ba hc
                have g1 : dd = He.ga K "LoggedPage" := of_decide_eq_true g1
                subst g1
                cases q3 : (vs[2]? : Option Value) with
                | none => rw [q3] at g2; cases g2
                | some u =>
                  rw [q3] at g2
                  cases u with
                  | str f t => exact ⟨x2, kV, doc, pm, an, .ref cc, ct, oc, od, osl, ⟨lk, hs, ⟨_, q1, rfl⟩, har, ⟨cc, _, vs, f, t, rfl, q2, rfl, q3, g2⟩, sup_top⟩, h2, h3⟩
                  | _ => cases g2
              | _ => cases hc
            | _ => cases hc
        | _ => cases hc
  | _ => cases hc
theorem meth_of {C D m : Str} (h : methB K C D m = true) : Meth K (He.ga K C) m (mA D m K) ∧ PySem.W.fnIn K (mA D m K) = true := by
  obtain ⟨h1, h⟩ := He.ba h
  obtain ⟨h2, h⟩ := He.ba h
  obtain ⟨h3, h4⟩ := He.ba h
  exact ⟨⟨e_of h1, h2, h3⟩, h4⟩
theorem prop_of {C D f : Str} (h : propB K C D f = true) : PropOf K (He.ga K C) f (mA D f K) (prG D f K) := by
  obtain ⟨h1, h⟩ := He.ba h
  obtain ⟨h2, h⟩ := He.ba h
  obtain ⟨h3, h4⟩ := He.ba h
  refine ⟨e_of h1, e_of h2, of_decide_eq_true h3, ?_⟩
  unfold prG
  split at h4
  · rename_i g r q
    rw [q]
    exact ⟨r, rfl⟩
  · cases h4
theorem set_of {C D f : Str} (h : setB K C D f = true) : W1.SetOf K (He.ga K C) f (mA D f K) (prS D f K) := by
  obtain ⟨h1, h⟩ := He.ba h
  obtain ⟨h2, h3⟩ := He.ba h
  refine ⟨e_of h1, of_decide_eq_true h2, ?_⟩
  unfold prS
  split at h3
  · rename_i z g r q
    rw [q]
    exact ⟨z, r, rfl⟩
  · cases h3
theorem mk_of {C D : Str} (h : mkB K C D = true) : Mk K (He.ga K C) (mA D "__init__" K) := by
  obtain ⟨h1, h⟩ := He.ba h
  obtain ⟨h2, h⟩ := He.ba h
  obtain ⟨h3, h4⟩ := He.ba h
  exact ⟨h1, e_of h2, h3, h4⟩
theorem sup_of {C m : Str} (h : supB K C m = true) (hm : (m == ("__class__" : Str)) = false) : ∃ mro, W1.SupF K mro (He.ga K "LoggedPage") (He.ga K C) (mA "Page" m K) m := by
  obtain ⟨h1, h⟩ := He.ba h
  obtain ⟨h2, h⟩ := He.ba h
  obtain ⟨h3, h⟩ := He.ba h
  obtain ⟨h4, h⟩ := He.ba h
  obtain ⟨h5, h6⟩ := He.ba h
  cases q : PySem.W.clsIn K (He.ga K C) with
  | none => rw [q] at h2; cases h2
  | some cd =>
    rw [q] at h2
    refine ⟨cd.mro, e_of h1, ⟨cd, q, rfl⟩, ?_, of_decide_eq_true h4, e_of h2, ?_, h5, hm⟩
    · unfold PySem.W.clsIn at h3
      split at h3
      · rename_i x y cd2 z q2
        exact ⟨_, cd2, q2, rfl⟩
      · cases h3
    · unfold PySem.W.fnIn at h5
      split at h5
      · rename_i x y fd z q2
        have h6 : ((K.lookup (mA "Page" m K)).map (fun o => o.cls) == some (Value.type "function")) = true := h6
        rw [q2] at h6
        have : some x = some (Value.type "function") := beq_iff_eq.mp h6
        cases this
        exact ⟨_, fd, q2, rfl, rfl⟩
      · cases h5
theorem isi_of {C : Str} (X : K.In h) (G : h.Ns mainGlobals mg) (hg : (He.Fa.glo "Page").ok K = true) (h : isiB K C = true) : PgI K mg (He.ga K C) := by
  obtain ⟨h1, h⟩ := He.ba h
  obtain ⟨h2, h⟩ := He.ba h
  obtain ⟨h3, h⟩ := He.ba h
  obtain ⟨h4, h5⟩ := He.ba h
  exact ⟨e_of h1, e_of h2, of_decide_eq_true h3, of_decide_eq_true h4, ⟨_, He.glo_ok X G hg, of_decide_eq_true h5⟩⟩
theorem er0_of {x : Str} (m : mg x = some (.ref (He.ga K x))) (h : er0B K x = true) : Er0 K mg x := by
  obtain ⟨h1, h2⟩ := He.ba h
  obtain ⟨h3, h4⟩ := He.ba h1
  obtain ⟨h5, h6⟩ := He.ba h4
  exact ⟨m, h3, ⟨_, _, _, _, PySem.F.excBase_ValueError, h2⟩, of_decide_eq_true h5, of_decide_eq_true h6⟩
end
end HF
end
section
namespace HF
open PySem PySem.Spec PyProof.Rows L2 TX
structure Said (K : PySem.W.Frag) (h : Heap) (mg : Str → Option Value) (w : World) : Prop where
  X : K.In h
  G : h.Ns mainGlobals mg
  e : obsK h.get? K = valF w
section
variable {K : PySem.W.Frag} {h : Heap} {mg : Str → Option Value} {w : World}
theorem Said.f0 (S : Said K h mg w) : (globB K) = true := congrArg (fun z : Al => z.1.getD 0 false) S.e
theorem Said.f1 (S : Said K h mg w) : (freeB K) = true := congrArg (fun z : Al => z.1.getD 1 false) S.e
theorem Said.f2 (S : Said K h mg w) : (intB K) = true := congrArg (fun z : Al => z.1.getD 2 false) S.e
theorem Said.f3 (S : Said K h mg w) : (strB K) = true := congrArg (fun z : Al => z.1.getD 3 false) S.e
theorem Said.f4 (S : Said K h mg w) : (fnB K) = true := congrArg (fun z : Al => z.1.getD 4 false) S.e
theorem Said.f5 (S : Said K h mg w) : (clsNames.all (pageB K)) = true := congrArg (fun z : Al => z.1.getD 5 false) S.e
theorem Said.f6 (S : Said K h mg w) : (loggedB K "LoggedPage") = true := congrArg (fun z : Al => z.1.getD 6 false) S.e
theorem Said.f7 (S : Said K h mg w) : (loggedB K "LoggedNarrowPage") = true := congrArg (fun z : Al => z.1.getD 7 false) S.e
theorem Said.f8 (S : Said K h mg w) : (supsL.all (cellB K theFile)) = true := congrArg (fun z : Al => z.1.getD 8 false) S.e
theorem Said.f9 (S : Said K h mg w) : (narrowB K "NarrowPage") = true := congrArg (fun z : Al => z.1.getD 9 false) S.e
theorem Said.f10 (S : Said K h mg w) : (narrowB K "LoggedNarrowPage") = true := congrArg (fun z : Al => z.1.getD 10 false) S.e
theorem Said.f11 (S : Said K h mg w) : (consB K) = true := congrArg (fun z : Al => z.1.getD 11 false) S.e
theorem Said.f12 (S : Said K h mg w) : ((["LastWord", "Busy", "TooManyEdits", "NothingToUndo"] : List Str).all (er0B K)) = true := congrArg (fun z : Al => z.1.getD 12 false) S.e
theorem Said.f13 (S : Said K h mg w) : (erB K "TooMany" "limit" veL "ValueError.__new__") = true := congrArg (fun z : Al => z.1.getD 13 false) S.e
theorem Said.f14 (S : Said K h mg w) : (erB K "TooNarrow" "place" veL "ValueError.__new__") = true := congrArg (fun z : Al => z.1.getD 14 false) S.e
theorem Said.f15 (S : Said K h mg w) : (erB K "TooLong" "place" veL "ValueError.__new__") = true := congrArg (fun z : Al => z.1.getD 15 false) S.e
theorem Said.f16 (S : Said K h mg w) : (erB K "NoPlace" "value" leL "LookupError.__new__") = true := congrArg (fun z : Al => z.1.getD 16 false) S.e
theorem Said.f17 (S : Said K h mg w) : (erB K "NoWidth" "value" leL "LookupError.__new__") = true := congrArg (fun z : Al => z.1.getD 17 false) S.e
theorem Said.f18 (S : Said K h mg w) : (badL.all (ercB K)) = true := congrArg (fun z : Al => z.1.getD 18 false) S.e
theorem Said.f19 (S : Said K h mg w) : (exmB K) = true := congrArg (fun z : Al => z.1.getD 19 false) S.e
theorem Said.f20 (S : Said K h mg w) : (tabB K) = true := congrArg (fun z : Al => z.1.getD 20 false) S.e
theorem Said.f21 (S : Said K h mg w) : (ltabB h.get? K) = true := congrArg (fun z : Al => z.1.getD 21 false) S.e
theorem Said.fnv (S : Said K h mg w) {d : Fd} (hd : d ∈ fnsL) : fnT K (d.at_ K) = d.val ∧ d.ok K = true :=
  ⟨List.map_inj_left.mp (show fnsL.map (fun d => fnT K (d.at_ K)) = fnsL.map Fd.val from congrArg (fun z : Al => z.2.1) S.e) d hd, List.all_eq_true.mp S.f4 d hd⟩
theorem Said.glo (S : Said K h mg w) (x : Str) (hx : x ∈ globL) : mg x = some (.ref (He.ga K x)) := He.glo_ok S.X S.G (List.all_eq_true.mp S.f0 x hx)
theorem Said.fre (S : Said K h mg w) (x : Str) (hx : x ∈ freeL) : mg x = none := He.free_ok S.X S.G (List.all_eq_true.mp S.f1 x hx)
theorem Said.int (S : Said K h mg w) (x : Str) (i : Int) (hx : (x, i) ∈ intL) : IsI mg x i := He.int_ok S.X S.G (List.all_eq_true.mp S.f2 (x, i) hx)
theorem Said.str (S : Said K h mg w) (x z : Str) (hx : (x, z) ∈ strL) : IsS mg x z := He.str_ok S.X S.G (List.all_eq_true.mp S.f3 (x, z) hx)
theorem Said.fn (S : Said K h mg w) (i : Nat) {d : Fd} (hi : fnsL[i]? = some d) (hcl : d.cl = []) : ∃ fd, FunD K d.name d.qual (defArgs d.st) (defBody d.st) (defScope d.st) [] (d.kws K) (d.at_ K) fd :=
  Fd.fun (S.fnv (List.mem_of_getElem? hi)).1 (S.fnv (List.mem_of_getElem? hi)).2 hcl
theorem Said.df (S : Said K h mg w) (i : Nat) {x : Str} {st : Stmt} (hi : fnsL[i]? = some ⟨gA x, x, x, st, [], []⟩) (hx : x ∈ globL) : Df K mg x st := ⟨S.fn i hi rfl, S.glo x hx⟩
theorem Said.fm (S : Said K h mg w) (i : Nat) {p : PySem.W.Frag → Addr} {m q : Str} {st : Stmt} (hi : fnsL[i]? = some ⟨p, m, q, st, [], []⟩) : Fm K (p K) m q st := ⟨S.fn i hi rfl⟩
theorem Said.bi (S : Said K h mg w) : Bi mg := by
  refine ⟨?_, ?_, ?_, ?_, ?_, ?_, ?_, ?_, ?_, ?_, ?_, ?_, ?_, ?_, ?_, ?_, ?_, ?_, ?_⟩ <;> exact S.fre _ (by decide +kernel)
theorem Said.co (S : Said K h mg w) : Co mg := by
  refine ⟨?_, ?_, ?_, ?_, ?_, ?_, ?_, ?_, ?_, ?_, ?_⟩ <;> first | exact S.int _ _ (by decide +kernel) | exact S.str _ _ (by decide +kernel)
theorem Said.Dis_integer (S : Said K h mg w) : Df K mg "is_integer" s_is_integer := S.df 0 rfl (by decide +kernel)
theorem Said.Dis_length (S : Said K h mg w) : Df K mg "is_length" s_is_length := S.df 1 rfl (by decide +kernel)
theorem Said.Dcheck_place (S : Said K h mg w) : Df K mg "check_place" s_check_place := S.df 2 rfl (by decide +kernel)
theorem Said.Dextent_of (S : Said K h mg w) : Df K mg "extent_of" s_extent_of := S.df 3 rfl (by decide +kernel)
theorem Said.Dlongest (S : Said K h mg w) : Df K mg "longest" s_longest := S.df 4 rfl (by decide +kernel)
theorem Said.Dcheck_fits (S : Said K h mg w) : Df K mg "check_fits" s_check_fits := S.df 5 rfl (by decide +kernel)
theorem Said.Dnext_start (S : Said K h mg w) : Df K mg "next_start" s_next_start := S.df 6 rfl (by decide +kernel)
theorem Said.Dstarts_of (S : Said K h mg w) : Df K mg "starts_of" s_starts_of := S.df 7 rfl (by decide +kernel)
theorem Said.Dstarts_at (S : Said K h mg w) : Df K mg "starts_at" s_starts_at := S.df 8 rfl (by decide +kernel)
theorem Said.Dcount_lines (S : Said K h mg w) : Df K mg "count_lines" s_count_lines := S.df 9 rfl (by decide +kernel)
theorem Said.Dlines_of (S : Said K h mg w) : Df K mg "lines_of" s_lines_of := S.df 10 rfl (by decide +kernel)
theorem Said.Dnext_width (S : Said K h mg w) : Df K mg "next_width" s_next_width := S.df 11 rfl (by decide +kernel)
theorem Said.Dbook_of (S : Said K h mg w) : Df K mg "book_of" s_book_of := S.df 12 rfl (by decide +kernel)
theorem Said.Dsteps_of (S : Said K h mg w) : Df K mg "steps_of" s_steps_of := S.df 13 rfl (by decide +kernel)
theorem Said.Drow_error (S : Said K h mg w) : Df K mg "row_error" s_row_error := S.df 14 rfl (by decide +kernel)
theorem Said.Drow_text (S : Said K h mg w) : Df K mg "row_text" s_row_text := S.df 15 rfl (by decide +kernel)
theorem Said.Dcheck_width (S : Said K h mg w) : Df K mg "check_width" s_check_width := S.df 16 rfl (by decide +kernel)
theorem Said.Dlines_text (S : Said K h mg w) : Df K mg "lines_text" s_lines_text := S.df 17 rfl (by decide +kernel)
theorem Said.D_law_shown_lines (S : Said K h mg w) : Df K mg "_law_shown_lines" s__law_shown_lines := S.df 18 rfl (by decide +kernel)
theorem Said.D_law_line (S : Said K h mg w) : Df K mg "_law_line" s__law_line := S.df 19 rfl (by decide +kernel)
theorem Said.D_law_said (S : Said K h mg w) : Df K mg "_law_said" s__law_said := S.df 20 rfl (by decide +kernel)
theorem Said.Dparse_number (S : Said K h mg w) : Df K mg "parse_number" s_parse_number := S.df 21 rfl (by decide +kernel)
theorem Said.Dcheck_length (S : Said K h mg w) : Df K mg "check_length" s_check_length := S.df 22 rfl (by decide +kernel)
theorem Said.Dchanged (S : Said K h mg w) : Df K mg "changed" s_changed := S.df 23 rfl (by decide +kernel)
theorem Said.Dput_in (S : Said K h mg w) : Df K mg "put_in" s_put_in := S.df 24 rfl (by decide +kernel)
theorem Said.Dtaken_out (S : Said K h mg w) : Df K mg "taken_out" s_taken_out := S.df 25 rfl (by decide +kernel)
theorem Said.Dedited (S : Said K h mg w) : Df K mg "edited" s_edited := S.df 26 rfl (by decide +kernel)
theorem Said.Dis_edit (S : Said K h mg w) : Df K mg "is_edit" s_is_edit := S.df 27 rfl (by decide +kernel)
theorem Said.Derror_name (S : Said K h mg w) : Df K mg "error_name" s_error_name := S.df 28 rfl (by decide +kernel)
theorem Said.D_law_name (S : Said K h mg w) : Df K mg "_law_name" s__law_name := S.df 29 rfl (by decide +kernel)
theorem Said.D_law_field (S : Said K h mg w) : Df K mg "_law_field" s__law_field := S.df 30 rfl (by decide +kernel)
theorem Said.D_law_draw (S : Said K h mg w) : Df K mg "_law_draw" s__law_draw := S.df 31 rfl (by decide +kernel)
theorem Said.D_law_pick (S : Said K h mg w) : Df K mg "_law_pick" s__law_pick := S.df 32 rfl (by decide +kernel)
theorem Said.D_law_row_drawn (S : Said K h mg w) : Df K mg "_law_row_drawn" s__law_row_drawn := S.df 33 rfl (by decide +kernel)
theorem Said.D_law_width_drawn (S : Said K h mg w) : Df K mg "_law_width_drawn" s__law_width_drawn := S.df 34 rfl (by decide +kernel)
theorem Said.D_law_edit (S : Said K h mg w) : Df K mg "_law_edit" s__law_edit := S.df 35 rfl (by decide +kernel)
theorem Said.D_law_start (S : Said K h mg w) : Df K mg "_law_start" s__law_start := S.df 36 rfl (by decide +kernel)
theorem Said.D_law_made (S : Said K h mg w) : Df K mg "_law_made" s__law_made := S.df 37 rfl (by decide +kernel)
theorem Said.D_law_apply (S : Said K h mg w) : Df K mg "_law_apply" s__law_apply := S.df 38 rfl (by decide +kernel)
theorem Said.D_law_did (S : Said K h mg w) : Df K mg "_law_did" s__law_did := S.df 39 rfl (by decide +kernel)
theorem Said.D_law_seen (S : Said K h mg w) : Df K mg "_law_seen" s__law_seen := S.df 40 rfl (by decide +kernel)
theorem Said.D_law_look (S : Said K h mg w) : Df K mg "_law_look" s__law_look := S.df 41 rfl (by decide +kernel)
theorem Said.D_law_looked (S : Said K h mg w) : Df K mg "_law_looked" s__law_looked := S.df 42 rfl (by decide +kernel)
theorem Said.D_law_query (S : Said K h mg w) : Df K mg "_law_query" s__law_query := S.df 43 rfl (by decide +kernel)
theorem Said.D_law_queries_right (S : Said K h mg w) : Df K mg "_law_queries_right" s__law_queries_right := S.df 44 rfl (by decide +kernel)
theorem Said.D_law_hear (S : Said K h mg w) : Df K mg "_law_hear" s__law_hear := S.df 45 rfl (by decide +kernel)
theorem Said.D_law_busy_right (S : Said K h mg w) : Df K mg "_law_busy_right" s__law_busy_right := S.df 46 rfl (by decide +kernel)
theorem Said.D_law_stream (S : Said K h mg w) : Df K mg "_law_stream" s__law_stream := S.df 47 rfl (by decide +kernel)
theorem Said.page (S : Said K h mg w) {C : Str} (hC : C ∈ clsNames) : pageB K C = true := List.all_eq_true.mp S.f5 C hC
theorem Said.er0 (S : Said K h mg w) (x : Str) (hx : x ∈ globL) (h2 : x ∈ (["LastWord", "Busy", "TooManyEdits", "NothingToUndo"] : List Str)) : Er0 K mg x := er0_of (S.glo x hx) (List.all_eq_true.mp S.f12 x h2)
end
end HF
end
section
namespace HF
open PySem PySem.Spec PyProof.Rows L2 TX
theorem boot_VE : bootBuiltins "ValueError" = some (.type "ValueError") := by kernel_rfl
theorem boot_LE : bootBuiltins "LookupError" = some (.type "LookupError") := by kernel_rfl
section
variable {K : PySem.W.Frag} {h : Heap} {mg : Str → Option Value} {w : World}
theorem exc_cls {C : Addr} {bmB : List Value} {nw : String} (q : PySem.W.excInitIn K C bmB nw = true) (hd : PySem.W.hasDictIn K C = true) : ∃ nm qn N bs bm sn sub ab col dd k0 k1 k2 k3 k5, K.lookup C = some (excClassObj nm qn C N bs bm true sn sub ab col dd k0 k1 k2 k3 k5 nw) ∧ PySem.W.excTail bmB bm = true := by
  unfold PySem.W.excInitIn at q
  unfold PySem.W.hasDictIn PySem.W.clsIn at hd
  cases ho : K.lookup C with
  | none => rw [ho] at q; cases q
  | some o =>
    rw [ho] at q hd
    obtain ⟨oc, dd, dt, sl⟩ := o
    split at q
    · rename_i x y cd z heq
      cases heq
      split at q
      · rename_i C' bm k0 k1 k2 k3 n k5 hm hs
        simp only [Bool.and_eq_true, beq_iff_eq, Bool.not_eq_true'] at q
        obtain ⟨⟨⟨q1, q2⟩, q3⟩, q4⟩ := q
        subst q1 q2
        obtain ⟨nm, bs, mro, ns, qn, hdct, sn, sub, ab, col, del⟩ := cd
        dsimp only at hm q3
        subst hm q3
        have hdct1 : hdct = true := by simpa using hd
        subst hdct1
        obtain ⟨l⟩ := sl
        have hs : l = _ := hs
        subst hs
        exact ⟨nm, qn, ns, bs, bm, sn, sub, ab, col, dd, k0, k1, k2, k3, k5, rfl, q4⟩
      · cases q
    · cases q
theorem er_of (S : Said K h mg w) {x f q : Str} {st : Stmt} {B nw ini : String} {bm : List Value} {i : Nat} (hb : erB K x f bm nw = true) (hx : x ∈ globL) (hi : fnsL[i]? = some ⟨mA x "__init__", "__init__", q, st, [], []⟩) (FB : ExcBaseFacts B nw ini bm) (ob : bm.contains (.type "object") = true) (ps : ∀ self, refuseLoop self "__setattr__" bm = pure ())
    (I : _root_.WX.IniF f (defArgs st) (defBody st) (defScope st)) : Er K mg x f := by
  obtain ⟨h1, hb⟩ := He.ba hb
  obtain ⟨h2, hb⟩ := He.ba hb
  obtain ⟨h3, hb⟩ := He.ba hb
  obtain ⟨h4, hb⟩ := He.ba hb
  obtain ⟨h5, hb⟩ := He.ba hb
  obtain ⟨h6, h7⟩ := He.ba hb
  obtain ⟨g1, h1⟩ := He.ba h1
  obtain ⟨g2, g3⟩ := He.ba h1
  have hd := List.mem_of_getElem? hi
  obtain ⟨_, oc, od, osl, kV, doc, pm, an, cdv, ct, cl, lk, c1, c2, _⟩ := Fd.look (S.fnv hd).1 (S.fnv hd).2
  have : cl = [] := by
    cases cl with
    | nil => rfl
    | cons _ _ => cases c1
  subst this
  exact ⟨S.glo x hx, mA x "__init__" K, q, defArgs st, defBody st, defScope st, B, nw, ini, bm, FB, ob, ps, exc_cls h2 h3, e_of h4, e_of h5, e_of h6, of_decide_eq_true h7, g1, of_decide_eq_true g2, of_decide_eq_true g3, I, ⟨oc, od, kV, doc, pm, an, cdv, ct, osl, lk, c2⟩⟩
theorem ini_TooMany : _root_.WX.IniF "limit" (defArgs s_TooMany_init) (defBody s_TooMany_init) (defScope s_TooMany_init) := ⟨⟨_, _, _, _, rfl⟩, fun _ _ _ _ _ _ _ _ _ => rfl, rfl, rfl, by decide, by decide, rfl, rfl, rfl⟩
theorem Said.ETooMany (S : Said K h mg w) : Er K mg "TooMany" "limit" := er_of S (i := 89) (ini := "ValueError.__init__") (B := "ValueError") S.f13 (by decide +kernel) rfl PySem.F.excBase_ValueError (by decide +kernel) (fun _ => rfl) ini_TooMany
theorem ini_TooNarrow : _root_.WX.IniF "place" (defArgs s_TooNarrow_init) (defBody s_TooNarrow_init) (defScope s_TooNarrow_init) := ⟨⟨_, _, _, _, rfl⟩, fun _ _ _ _ _ _ _ _ _ => rfl, rfl, rfl, by decide, by decide, rfl, rfl, rfl⟩
theorem Said.ETooNarrow (S : Said K h mg w) : Er K mg "TooNarrow" "place" := er_of S (i := 90) (ini := "ValueError.__init__") (B := "ValueError") S.f14 (by decide +kernel) rfl PySem.F.excBase_ValueError (by decide +kernel) (fun _ => rfl) ini_TooNarrow
theorem ini_TooLong : _root_.WX.IniF "place" (defArgs s_TooLong_init) (defBody s_TooLong_init) (defScope s_TooLong_init) := ⟨⟨_, _, _, _, rfl⟩, fun _ _ _ _ _ _ _ _ _ => rfl, rfl, rfl, by decide, by decide, rfl, rfl, rfl⟩
theorem Said.ETooLong (S : Said K h mg w) : Er K mg "TooLong" "place" := er_of S (i := 91) (ini := "ValueError.__init__") (B := "ValueError") S.f15 (by decide +kernel) rfl PySem.F.excBase_ValueError (by decide +kernel) (fun _ => rfl) ini_TooLong
theorem ini_NoPlace : _root_.WX.IniF "value" (defArgs s_NoPlace_init) (defBody s_NoPlace_init) (defScope s_NoPlace_init) := ⟨⟨_, _, _, _, rfl⟩, fun _ _ _ _ _ _ _ _ _ => rfl, rfl, rfl, by decide, by decide, rfl, rfl, rfl⟩
theorem Said.ENoPlace (S : Said K h mg w) : Er K mg "NoPlace" "value" := er_of S (i := 92) (ini := "LookupError.__init__") (B := "LookupError") S.f16 (by decide +kernel) rfl PySem.F.excBase_LookupError (by decide +kernel) (fun _ => rfl) ini_NoPlace
theorem ini_NoWidth : _root_.WX.IniF "value" (defArgs s_NoWidth_init) (defBody s_NoWidth_init) (defScope s_NoWidth_init) := ⟨⟨_, _, _, _, rfl⟩, fun _ _ _ _ _ _ _ _ _ => rfl, rfl, rfl, by decide, by decide, rfl, rfl, rfl⟩
theorem Said.ENoWidth (S : Said K h mg w) : Er K mg "NoWidth" "value" := er_of S (i := 93) (ini := "LookupError.__init__") (B := "LookupError") S.f17 (by decide +kernel) rfl PySem.F.excBase_LookupError (by decide +kernel) (fun _ => rfl) ini_NoWidth
theorem err_glob : ∀ x ∈ errNames, x = "ValueError" ∨ x = "LookupError" ∨ (x ∈ globL ∧ (x == ("ValueError" : Str)) = false ∧ (x == ("LookupError" : Str)) = false) := by decide +kernel
theorem Said.erc (S : Said K h mg w) (b : MM.Bad) : ErC K mg b := by
  have hb := List.all_eq_true.mp S.f18 b (by cases b <;> decide +kernel)
  obtain ⟨h1, hb⟩ := He.ba hb
  obtain ⟨h2, hb⟩ := He.ba hb
  obtain ⟨h3, hb⟩ := He.ba hb
  obtain ⟨h4, hb⟩ := He.ba hb
  obtain ⟨h5, hb⟩ := He.ba hb
  obtain ⟨h6, hb⟩ := He.ba hb
  obtain ⟨h7, hb⟩ := He.ba hb
  obtain ⟨h8, h9⟩ := He.ba hb
  have hp := S.page (C := "Page") (by decide +kernel)
  unfold pageB at hp
  simp only [Bool.and_eq_true] at hp
  obtain ⟨_, _, _, _, _, _, hi, _⟩ := hp
  obtain ⟨_, hi⟩ := He.ba hi
  obtain ⟨i2, hi⟩ := He.ba hi
  obtain ⟨i3, _⟩ := He.ba hi
  refine ⟨⟨h1, e_of h2, e_of h3, of_decide_eq_true h4, h5, e_of h6, e_of i2, of_decide_eq_true i3, of_decide_eq_true h7⟩, fun x hx => ⟨errV K x, ?_, of_decide_eq_true (List.all_eq_true.mp h8 x hx)⟩, fun f hf => ?_⟩
  · unfold errV
    rcases err_glob x hx with rfl | rfl | ⟨hg, n1, n2⟩
    · exact .inr ⟨"ValueError", S.fre _ (by decide +kernel), boot_VE, rfl⟩
    · exact .inr ⟨"LookupError", S.fre _ (by decide +kernel), boot_LE, rfl⟩
    · rw [n1, n2]
      exact .inl ⟨_, S.glo x hg, rfl⟩
  · rw [hf] at h9
    exact He.noat_ok h9
theorem Said.tabs (S : Said K h mg w) : [He.dicW K (He.ga K "SIZES"), He.dicW K (He.ga K "FORMS")] = [some (He.keysIn w.params (sizesT.map (·.1))), some (He.keysIn w.params (formsT.map (·.1)))] := congrArg (fun z : Al => z.2.2) S.e
theorem vals_int {a : Addr} {t : List (Str × Int)} (h : He.valsB K a (t.map fun q => (q.1, .int q.2)) = true) : ∀ q ∈ t, ∃ tk, PySem.W.nsIn K a q.1 = some (some (.int q.2 tk)) := fun q hq => by
  obtain ⟨u, h1, h2⟩ := He.valsB_ok h (List.mem_map_of_mem (f := fun q : Str × Int => (q.1, He.Dv.int q.2)) hq)
  obtain ⟨tk, rfl⟩ : ∃ tk, u = Value.int q.2 tk := h2
  exact ⟨tk, h1⟩
theorem Said.sizes (S : Said K h mg w) : TabN K w mg "SIZES" sizesT [] := ⟨S.glo _ (by decide +kernel), He.dicW_ok (List.cons.inj S.tabs).1, vals_int (He.ba S.f20).1, fun z hz => nomatch hz⟩
theorem Said.forms (S : Said K h mg w) : TabN K w mg "FORMS" formsT ["run"] := ⟨S.glo _ (by decide +kernel), He.dicW_ok (List.cons.inj (List.cons.inj S.tabs).2).1, vals_int (He.ba (He.ba S.f20).2).1, fun z hz => by
  rw [List.mem_singleton.mp hz]
  exact e_of (He.ba (He.ba (He.ba S.f20).2).2).1⟩
theorem Said.edits (S : Said K h mg w) : TupK K mg "EDITS" editsT := ⟨_, S.glo _ (by decide +kernel), fun H => He.tupB_ok (He.ba (He.ba (He.ba (He.ba S.f20).2).2).2).1 H⟩
theorem Said.alias (S : Said K h mg w) : He.ga K "is_edit_pages" = He.ga K "is_edit" := of_decide_eq_true (He.ba (He.ba (He.ba (He.ba S.f20).2).2).2).2
theorem Said.exm1 (S : Said K h mg w) (x : Str) (hx : x ∈ (["NoPlace", "TooNarrow", "NoWidth"] : List Str)) : PySem.W.exmOne K (.ref (He.ga K x)) (.ref (He.ga K x)) = some true := He.exm_ok (List.all_eq_true.mp (He.ba S.f19).1 x hx)
theorem Said.exm2 (S : Said K h mg w) (b : MM.Bad) (hb : b ≠ .noWidth) : PySem.W.exmAny K (.ref (Bad.adr K b)) [.ref (He.ga K "WrapError"), .ref (He.ga K "NoPlace")] = some true := by
  have z := List.all_eq_true.mp (He.ba (He.ba S.f19).2).1 b (by cases b <;> decide +kernel)
  rcases Bool.or_eq_true_iff.mp z with z | z
  · exact absurd (eq_of_beq z) hb
  · exact of_decide_eq_true z
theorem Said.exm3 (S : Said K h mg w) (b : MM.Bad) : PySem.W.exmAny K (.ref (Bad.adr K b)) [.ref (He.ga K "WrapError"), .ref (He.ga K "NoPlace"), .ref (He.ga K "NoWidth")] = some true :=
  of_decide_eq_true (List.all_eq_true.mp (He.ba (He.ba S.f19).2).2 b (by cases b <;> decide +kernel))
end
end HF
end
section
namespace HF
open PySem PySem.Spec PyProof.Rows L2 TX
abbrev PP : Program := PySem.Challenge.pw_wrapwidths_k97_whole_console_beside_a_pa
section
variable {K : PySem.W.Frag} {h : Heap} {mg : Str → Option Value} {w : World} {base : Heap}
theorem ffMono {j k : Nat} {g : Addr} {ps : List Str} {sp : Sp} (F : Ff PP w K mg base j g ps sp) (e : j ≤ k) : Ff PP w K mg base k g ps sp := by
  obtain ⟨fd, h1, h2⟩ := F.ex
  exact ⟨fd, h1.mono e, h2⟩
theorem rfMono {j k : Nat} {C : Addr} {sp : Sp} (F : Rf PP w K mg base j C sp) (e : j ≤ k) : Rf PP w K mg base k C sp := by
  obtain ⟨g, fd, h1, h2, h3, h4⟩ := F.ex
  exact ⟨g, fd, h1, h2.mono e, h3, h4⟩
theorem hact (kd : PKind) (st : MM.Pg) (e : MM.Edit) (b : MM.Bad) (q : MM.Pg.act kd st e = .error b) : b ≠ .noWidth := by
  have ed : ∀ (r : List Int) (f : MM.Edit) (c : MM.Bad), MM.editR r f = .error c → c ≠ .noWidth := fun r f c hq => by
    cases f <;> simp only [MM.editR] at hq
    · split at hq
      · split at hq <;> (try cases hq); decide
      · cases hq; decide
    · split at hq
      · split at hq <;> (try cases hq); decide
      · cases hq; decide
    · split at hq <;> (try cases hq); decide
    · cases hq
    · cases hq; decide
  have per : ∀ (f : MM.Edit) (c : MM.Bad), st.perform kd f = .error c → c ≠ .noWidth := fun f c hq => by
    unfold MM.Pg.perform at hq
    split at hq
    · cases hq; decide
    · split at hq
      · rename_i b' he
        cases hq
        exact ed _ _ _ he
      · split at hq
        · cases hq
        · cases hq; decide
  unfold MM.Pg.act at q
  cases ho : st.alone kd e with
  | ok s => rw [ho] at q; cases q
  | error c =>
    rw [ho] at q
    cases q
    unfold MM.Pg.alone at ho
    split at ho
    · cases ho; decide
    · cases e with
      | undo =>
        have ho : st.undo = .error b := ho
        unfold MM.Pg.undo at ho
        split at ho
        · cases ho; decide
        · cases ho
      | put p l => exact per (.put p l) b ho
      | cut p => exact per (.cut p) b ho
      | resize p l => exact per (.resize p l) b ho
      | turn => exact per .turn b ho
/-- the promises that ask no class -/
structure Glob (w : World) (K : PySem.W.Frag) (mg : Str → Option Value) (base : Heap) : Prop where
  cp : Gf PP w K mg base 3 "check_place" P_check_place (S_check_place K)
  lo : Gf PP w K mg base 1 "longest" P_longest (Spf K R_longest)
  so : Gf PP w K mg base 3 "starts_of" P_starts_of (Spf K R_starts_of)
  cl : Gf PP w K mg base 5 "count_lines" P_count_lines (S_count_lines K)
  li : Gf PP w K mg base 1 "lines_of" P_lines_of (Spf K R_lines_of)
  st : Gf PP w K mg base 5 "steps_of" P_steps_of (Spf K R_steps_of)
  re : Gf PP w K mg base 3 "row_error" P_row_error (Spf K R_row_error)
  rt : Gf PP w K mg base 1 "row_text" P_row_text (Spf K R_row_text)
  cw : Gf PP w K mg base 3 "check_width" P_check_width (S_check_width K)
  lt : Gf PP w K mg base 1 "lines_text" P_lines_text (Spf K R_lines_text)
  sl : Gf PP w K mg base 1 "_law_shown_lines" P__law_shown_lines (Spf K R_lines_text)
  pn : Gf PP w K mg base 1 "parse_number" P_parse_number (Spf K R_parse_number)
  ed : Gf PP w K mg base 5 "edited" P_edited (S_edited K)
  ie : Gf PP w K mg base 1 "is_edit_pages" P_is_edit (Spf K R_is_edit)
  en : GfE PP w K mg base 1 "error_name" P_error_name (S_err K fun b v _ _ => v = .str b.name)
  ln : GfE PP w K mg base 1 "_law_name" P__law_name (S_err K fun b v _ _ => v = .str b.name)
  lf : GfE PP w K mg base 1 "_law_field" P__law_field (S_err K fun _ v _ H' => ∃ dv, Dp K H' v dv)
  dr : Gf PP w K mg base 1 "_law_draw" P__law_draw S_draw
  wd : Gf PP w K mg base 2 "_law_width_drawn" P__law_width_drawn (S_widthd K)
theorem Said.glob (S : Said K h mg w) : Glob w K mg base := by
  have B := S.bi
  have Co := S.co
  have ii := is_integer_ok (P := PP) (w := w) (base := base) S.Dis_integer B
  have il := is_length_ok S.Dis_length ii Co
  have cp := check_place_ok S.Dcheck_place ii B S.ENoPlace
  have ex := extent_of_ok (P := PP) (w := w) (base := base) S.Dextent_of B
  have lo := longest_ok (P := PP) (w := w) (base := base) S.Dlongest B
  have cf := check_fits_ok (P := PP) (w := w) (base := base) S.Dcheck_fits B S.ETooNarrow
  have ns := next_start_ok S.Dnext_start B ex
  have so := starts_of_ok S.Dstarts_of B ns
  have sa := starts_at_ok S.Dstarts_at cf so
  have nw := next_width_ok S.Dnext_width B ex
  have bo := book_of_ok S.Dbook_of B lo so nw
  have ck := check_length_ok S.Dcheck_length il
  have ie := is_edit_ok (P := PP) (w := w) (base := base) S.Dis_edit B S.sizes
  have dr := draw_ok (P := PP) (w := w) (base := base) S.D_law_draw B
  exact {
    cp := cp
    lo := lo
    so := so
    cl := count_lines_ok S.Dcount_lines B sa
    li := lines_of_ok S.Dlines_of B
    st := steps_of_ok S.Dsteps_of B bo
    re := row_error_ok S.Drow_error B Co il
    rt := row_text_ok S.Drow_text B Co
    cw := check_width_ok S.Dcheck_width ii Co S.ENoWidth
    lt := lines_text_ok S.Dlines_text B Co
    sl := shown_lines_ok S.D_law_shown_lines B
    pn := parse_number_ok S.Dparse_number B Co
    ed := edited_ok S.Dedited (put_in_ok S.Dput_in B Co S.ENoPlace S.ETooMany ii ck) (changed_ok S.Dchanged cp ck) (taken_out_ok S.Dtaken_out B (S.er0 "LastWord" (by decide +kernel) (by decide +kernel)) cp)
    ie := ⟨by rw [S.alias]; exact ie.ex, S.glo _ (by decide +kernel), by rw [S.alias]; exact ie.kp⟩
    en := error_name_ok S.Derror_name B S.erc
    ln := law_name_ok S.D_law_name B S.erc
    lf := law_field_ok S.D_law_field B S.erc
    dr := dr
    wd := width_drawn_ok S.D_law_width_drawn B dr }
end
end HF
end
section
namespace HF
open PySem PySem.Spec PyProof.Rows L2 TX
section
variable {K : PySem.W.Frag} {h : Heap} {mg : Str → Option Value} {w : World} {base : Heap}
theorem dmOf {C g : Addr} {m q : Str} {st : Stmt} (F : Fm K g m q st) (M : Meth K C m g) : Dm K C m q st := let ⟨fd, f⟩ := F.ex; ⟨g, fd, M, f⟩
theorem Said.sfr (S : Said K h mg w) (i : Nat) {m q : Str} {st : Stmt} {kw : List (Str × He.Dv)} {ps : List Str} (hi : fnsL[i]? = some ⟨mA "LoggedPage" m, m, q, st, ["__class__"], kw⟩) (hm : m ∈ supsL) (hs : W1.SScope ps (defScope st)) (har : ∃ ar, ((defArgs st).posonlyargs ++ (defArgs st).args).head? = some ar ∧ ps[0]? = some ar.arg) :
    ∃ c kV doc pm an cdv ct oc od osl, W1.SFr PP K (mA "LoggedPage" m K) c (He.ga K "LoggedPage") m q (defArgs st) (defBody st) (defScope st) .none kV doc pm an cdv ct oc od osl ps ∧ PySem.W.codeIn K cdv q = true ∧ KwdV K kV (kw.map fun q => (q.1, q.2.v K)) :=
  Fd.sup (S.fnv (List.mem_of_getElem? hi)).1 (S.fnv (List.mem_of_getElem? hi)).2 rfl rfl (List.all_eq_true.mp S.f8 m hm) hs har
theorem smOf {g D : Addr} {m q : Str} {st : Stmt} {ps : List Str} {X : Value → Prop} (h : ∃ c kV doc pm an cdv ct oc od osl, W1.SFr PP K g c D m q (defArgs st) (defBody st) (defScope st) .none kV doc pm an cdv ct oc od osl ps ∧ PySem.W.codeIn K cdv q = true ∧ X kV) : Sm PP K g D m q st ps := by
  obtain ⟨c, kV, doc, pm, an, cdv, ct, oc, od, osl, h1, h2, _⟩ := h
  exact ⟨c, kV, doc, pm, an, cdv, ct, oc, od, osl, h1, h2⟩
theorem Said.dfc (S : Said K h mg w) (TB : LamX.TabB base mg (cT K).1 (cT K).2) : DfC K mg base "_law_busy_right" s__law_busy_right (cT K).1 (cT K).2 := by
  obtain ⟨fd, F⟩ := S.fn 46 rfl rfl
  have F' := F
  obtain ⟨oc, od, dV, kV, doc, pm, an, cdv, ct, osl, e, lk, hcd, hD, hK⟩ := F'.ex
  obtain ⟨c, e2⟩ := He.codeIn_ref hcd
  have e3 : (cT K).1 = c := He.codeOf_eq (p := ("_law_busy_right", none)) lk (by rw [e]; exact e2)
  subst e2
  rw [← e3] at e hcd
  subst e
  exact ⟨⟨oc, od, dV, kV, doc, pm, an, ct, osl, lk, hcd, F⟩, S.glo _ (by decide +kernel), TB⟩
theorem Said.sm_put (S : Said K h mg w) : Sm PP K (mA "LoggedPage" "put" K) (He.ga K "LoggedPage") "put" "LoggedPage.put" s_LoggedPage_put P_LoggedPage_put := smOf (S.sfr 83 rfl (by decide +kernel) (sscope_of (by decide +kernel)) ⟨_, rfl, rfl⟩)
theorem Said.sm_cut (S : Said K h mg w) : Sm PP K (mA "LoggedPage" "cut" K) (He.ga K "LoggedPage") "cut" "LoggedPage.cut" s_LoggedPage_cut P_LoggedPage_cut := smOf (S.sfr 84 rfl (by decide +kernel) (sscope_of (by decide +kernel)) ⟨_, rfl, rfl⟩)
theorem Said.sm_resize (S : Said K h mg w) : Sm PP K (mA "LoggedPage" "resize" K) (He.ga K "LoggedPage") "resize" "LoggedPage.resize" s_LoggedPage_resize P_LoggedPage_resize := smOf (S.sfr 85 rfl (by decide +kernel) (sscope_of (by decide +kernel)) ⟨_, rfl, rfl⟩)
theorem Said.sm_turn (S : Said K h mg w) : Sm PP K (mA "LoggedPage" "turn" K) (He.ga K "LoggedPage") "turn" "LoggedPage.turn" s_LoggedPage_turn P_LoggedPage_turn := smOf (S.sfr 86 rfl (by decide +kernel) (sscope_of (by decide +kernel)) ⟨_, rfl, rfl⟩)
theorem Said.sm_undo (S : Said K h mg w) : Sm PP K (mA "LoggedPage" "undo" K) (He.ga K "LoggedPage") "undo" "LoggedPage.undo" s_LoggedPage_undo P_LoggedPage_undo := smOf (S.sfr 87 rfl (by decide +kernel) (sscope_of (by decide +kernel)) ⟨_, rfl, rfl⟩)
theorem Said.sm_init (S : Said K h mg w) : Sm PP K (mA "LoggedPage" "__init__" K) (He.ga K "LoggedPage") "__init__" "LoggedPage.__init__" s_LoggedPage_init P_LoggedPage_init := smOf (S.sfr 82 rfl (by decide +kernel) (sscope_of (by decide +kernel)) ⟨_, rfl, rfl⟩)
theorem Said.sr (S : Said K h mg w) : Sr PP K (mA "LoggedPage" "run" K) (He.ga K "LoggedPage") := by
  obtain ⟨c, kV, doc, pm, an, cdv, ct, oc, od, osl, h1, h2, h3⟩ := S.sfr 88 (ps := P_LoggedPage_run) rfl (by decide +kernel) (sscope_of (by decide +kernel)) ⟨_, rfl, rfl⟩
  exact ⟨c, kV, doc, pm, an, cdv, ct, oc, od, osl, h1, h2, h3⟩
def baseL : List Str := ["check_idle", "perform", "step", "edits", "look", "__getitem__", "__len__", "__str__", "__eq__", "perform_alone"]
theorem Said.coc (S : Said K h mg w) : CoC K (He.ga K "Console") ∧ (∀ m ∈ (["answer_edit", "count_text", "answer_query", "answer", "execute"] : List Str), Meth K (He.ga K "Console") m (mA "Console" m K)) ∧ Mk K (He.ga K "Console") (mA "Console" "__init__" K) := by
  obtain ⟨h1, hb⟩ := He.ba S.f11
  obtain ⟨h2, hb⟩ := He.ba hb
  obtain ⟨h3, h4⟩ := He.ba hb
  exact ⟨⟨He.cls_ok h1, fun f hf => He.noat_ok (List.all_eq_true.mp h2 f hf)⟩, fun m hm => (meth_of (List.all_eq_true.mp h3 m hm)).1, mk_of h4⟩
theorem kd4_of (S : Said K h mg w) (Gb : Glob w K mg base) {C : Str} (hC : C ∈ clsNames) (kd : PKind) (hF : baseL.all (fun m => fromB C m == "Page") = true) (hW : kd.nr = false → fromB C "accept" = "Page") (hN : kd.nr = true → fromB C "accept" = "NarrowPage" ∧ narrowB K C = true)
    (hP : kd.lg = false → supsL.all (fun m => fromB C m == "Page") = true) (hL : kd.lg = true → supsL.all (fun m => fromB C m == "LoggedPage") = true ∧ loggedB K C = true) (TB : LamX.TabB base mg (cT K).1 (cT K).2) :
    Kd4 PP w K mg base (He.ga K "Console") (cT K).2 (kd.lg = true) (He.ga K C) kd ∧ Mkp PP w K mg base 5 C (He.ga K C) kd := by
  have B := S.bi
  have Co := S.co
  have hp := S.page hC
  unfold pageB at hp
  simp only [Bool.and_eq_true] at hp
  obtain ⟨p1, p2, p3, p4, p5, p6, p7, p8⟩ := hp
  have G : PgC K (He.ga K C) := ⟨He.cls_ok p1, fun f hf => He.noat_ok (List.all_eq_true.mp p2 f hf)⟩
  have me : ∀ m D, m ∈ methsL → fromB C m = D → Meth K (He.ga K C) m (mA D m K) ∧ PySem.W.fnIn K (mA D m K) = true := fun m D hm hD => by
    have := List.all_eq_true.mp p3 m hm
    rw [hD] at this
    exact meth_of this
  have mp : ∀ m, m ∈ baseL → m ∈ methsL → Meth K (He.ga K C) m (mA "Page" m K) ∧ PySem.W.fnIn K (mA "Page" m K) = true := fun m h1 h2 => me m "Page" h2 (eq_of_beq (List.all_eq_true.mp hF m h1))
  have pr : ∀ f, f ∈ propsL → PropOf K (He.ga K C) f (mA "Page" f K) (prG "Page" f K) := fun f hf => prop_of (List.all_eq_true.mp p4 f hf)
  have acc : Mf PP w K mg base 2 (He.ga K C) "accept" P_Page_accept (S_accept K (He.ga K C) kd) := by
    cases hn : kd.nr with
    | false => exact accept_ok hn (dmOf (S.fm 50 rfl) (me "accept" "Page" (by decide +kernel) (hW hn)).1)
    | true => exact acceptN_ok hn (dmOf (S.fm 67 rfl) (me "accept" "NarrowPage" (by decide +kernel) (hN hn).1).1) G B (He.conB_ok (hN hn).2) S.ETooLong
  have idle := idle_ok (P := PP) (w := w) (base := base) (kd := kd) (dmOf (S.fm 51 rfl) (mp "check_idle" (by decide +kernel) (by decide +kernel)).1) G (S.er0 "Busy" (by decide +kernel) (by decide +kernel))
  have perf := perform_ok (dmOf (S.fm 52 rfl) (mp "perform" (by decide +kernel) (by decide +kernel)).1) G B Co (S.er0 "TooManyEdits" (by decide +kernel) (by decide +kernel)) Gb.ed acc
  have pa := (perform_alone_ok (S.fm 53 rfl) G B idle perf).mf (mp "perform_alone" (by decide +kernel) (by decide +kernel)).1
  have put0 := put_ok G pa (S.fm 54 rfl)
  have cut0 := cut_ok G pa (S.fm 55 rfl)
  have resize0 := resize_ok G pa (S.fm 56 rfl)
  have turn0 := turn_ok G pa (S.fm 57 rfl)
  have undo0 := undo_ok (S.fm 58 rfl) G B (S.er0 "NothingToUndo" (by decide +kernel) (by decide +kernel)) idle
  have pf : kd.lg = false → ∀ m, m ∈ supsL → fromB C m = "Page" := fun hl m hm => eq_of_beq (List.all_eq_true.mp (hP hl) m hm)
  have lf : kd.lg = true → ∀ m, m ∈ supsL → fromB C m = "LoggedPage" := fun hl m hm => eq_of_beq (List.all_eq_true.mp (hL hl).1 m hm)
  have sp : kd.lg = true → ∀ m, m ∈ supsL → (m == ("__class__" : Str)) = false → ∃ mro, W1.SupF K mro (He.ga K "LoggedPage") (He.ga K C) (mA "Page" m K) m := fun hl m hm hne => sup_of (List.all_eq_true.mp (He.ba (He.ba (hL hl).2).2).2 m hm) hne
  have noted : kd.lg = true → Mf PP w K mg base 1 (He.ga K C) "noted" P_LoggedPage_noted (S_noted K (He.ga K C) kd) := fun hl => (noted_ok hl G (S.fm 68 rfl)).mf (meth_of (He.ba (hL hl).2).1).1
  have put : Mf PP w K mg base 9 (He.ga K C) "put" P_Page_put (S_act K (He.ga K C) kd "put") := by
    cases hl : kd.lg with
    | false => exact (ffMono (act_plain hl put0) (by decide)).mf (me "put" "Page" (by decide +kernel) (pf hl _ (by decide +kernel))).1
    | true => exact (lput_ok hl G B S.sm_put (sp hl _ (by decide +kernel) (by decide +kernel)) put0 (noted hl)).mf (me "put" "LoggedPage" (by decide +kernel) (lf hl _ (by decide +kernel))).1
  have cut : Mf PP w K mg base 9 (He.ga K C) "cut" P_Page_cut (S_act K (He.ga K C) kd "cut") := by
    cases hl : kd.lg with
    | false => exact (ffMono (act_plain hl cut0) (by decide)).mf (me "cut" "Page" (by decide +kernel) (pf hl _ (by decide +kernel))).1
    | true => exact (lcut_ok hl G B S.sm_cut (sp hl _ (by decide +kernel) (by decide +kernel)) cut0 (noted hl)).mf (me "cut" "LoggedPage" (by decide +kernel) (lf hl _ (by decide +kernel))).1
  have resize : Mf PP w K mg base 9 (He.ga K C) "resize" P_Page_resize (S_act K (He.ga K C) kd "resize") := by
    cases hl : kd.lg with
    | false => exact (ffMono (act_plain hl resize0) (by decide)).mf (me "resize" "Page" (by decide +kernel) (pf hl _ (by decide +kernel))).1
    | true => exact (lresize_ok hl G B S.sm_resize (sp hl _ (by decide +kernel) (by decide +kernel)) resize0 (noted hl)).mf (me "resize" "LoggedPage" (by decide +kernel) (lf hl _ (by decide +kernel))).1
  have turn : Mf PP w K mg base 9 (He.ga K C) "turn" P_Page_turn (S_act K (He.ga K C) kd "turn") := by
    cases hl : kd.lg with
    | false => exact (ffMono (act_plain hl turn0) (by decide)).mf (me "turn" "Page" (by decide +kernel) (pf hl _ (by decide +kernel))).1
    | true => exact (lturn_ok hl G B S.sm_turn (sp hl _ (by decide +kernel) (by decide +kernel)) turn0 (noted hl)).mf (me "turn" "LoggedPage" (by decide +kernel) (lf hl _ (by decide +kernel))).1
  have undo : Mf PP w K mg base 9 (He.ga K C) "undo" P_Page_undo (S_act K (He.ga K C) kd "undo") := by
    cases hl : kd.lg with
    | false => exact (ffMono (act_plain hl undo0) (by decide)).mf (me "undo" "Page" (by decide +kernel) (pf hl _ (by decide +kernel))).1
    | true => exact (lundo_ok hl G B S.sm_undo (sp hl _ (by decide +kernel) (by decide +kernel)) undo0 (noted hl)).mf (me "undo" "LoggedPage" (by decide +kernel) (lf hl _ (by decide +kernel))).1
  have init0 := init_ok G (S.fm 49 rfl) Gb.re acc
  have mk : Mkp PP w K mg base 5 C (He.ga K C) kd := by
    refine ⟨S.glo C (by revert hC; exact (by decide +kernel : ∀ x ∈ clsNames, x ∈ globL) C), ?_⟩
    cases hl : kd.lg with
    | false =>
      have z := mk_of p6
      rw [pf hl "__init__" (by decide +kernel)] at z
      exact ⟨_, _, z, ffMono (make_plain hl init0) (by decide)⟩
    | true =>
      have z := mk_of p6
      rw [lf hl "__init__" (by decide +kernel)] at z
      exact ⟨_, _, z, linit_ok hl G B S.sm_init (sp hl _ (by decide +kernel) (by decide +kernel)) init0⟩
  have row : Pf PP w K mg base 1 (He.ga K C) "row" (S_get K (He.ga K C) kd r_row) := ⟨_, _, pr "row" (by decide +kernel), row_ok G (S.fm 69 rfl)⟩
  have size : Pf PP w K mg base 1 (He.ga K C) "size" (S_get K (He.ga K C) kd r_size) := ⟨_, _, pr "size" (by decide +kernel), size_ok G B (S.fm 70 rfl)⟩
  have version : Pf PP w K mg base 1 (He.ga K C) "version" (S_get K (He.ga K C) kd r_version) := ⟨_, _, pr "version" (by decide +kernel), version_ok G B (S.fm 71 rfl)⟩
  have width : Pf PP w K mg base 1 (He.ga K C) "width" (S_get K (He.ga K C) kd r_width) := ⟨_, _, pr "width" (by decide +kernel), width_ok G (S.fm 72 rfl)⟩
  have lines : Pf PP w K mg base 4 (He.ga K C) "lines" (S_get K (He.ga K C) kd r_lines) := ⟨_, _, pr "lines" (by decide +kernel), lines_ok G (S.fm 73 rfl) Gb.lo Gb.so Gb.li⟩
  have look := (look_ok G (S.fm 61 rfl) (set_of p5) (setw_ok (kd := kd) G (S.fm 74 rfl) Gb.cw) lines).mf (mp "look" (by decide +kernel) (by decide +kernel)).1
  have itf : ∀ (m : Str) {k : Nat} {ps : List Str} {s : Sp}, m ∈ baseL → m ∈ methsL → Ff PP w K mg base k (mA "Page" m K) ps s → Itf PP w K mg base k (He.ga K C) m ps s := fun m k ps s h1 h2 F => ⟨_, (mp m h1 h2).1.at_, (mp m h1 h2).2, (mp m h1 h2).1.fn, F⟩
  have item := itf "__getitem__" (by decide +kernel) (by decide +kernel) (item_ok (kd := kd) G (S.fm 62 rfl) Gb.cp)
  have len := itf "__len__" (by decide +kernel) (by decide +kernel) (len_ok (P := PP) (w := w) (base := base) (kd := kd) G B (S.fm 63 rfl))
  have str := itf "__str__" (by decide +kernel) (by decide +kernel) (str_ok (P := PP) (w := w) (base := base) (kd := kd) G B (S.fm 64 rfl))
  have eqP := itf "__eq__" (by decide +kernel) (by decide +kernel) (eq_ok (P := PP) (w := w) (base := base) (kd := kd) G (isi_of S.X S.G (List.all_eq_true.mp S.f0 "Page" (by decide +kernel)) p7) B (S.fm 65 rfl))
  have edits := (edits_ok (P := PP) (w := w) (mg := mg) (base := base) (kd := kd) G (S.fm 60 rfl)).mf (mp "edits" (by decide +kernel) (by decide +kernel)).1
  have D : ∃ fd, FunD K "run" "Page.run" (defArgs s_Page_run) (defBody s_Page_run) (defScope s_Page_run) [] [("on_step", .non)] (mA "Page" "run" K) fd := S.fn 66 rfl rfl
  have stepM := (mp "step" (by decide +kernel) (by decide +kernel)).1
  have RN := run_ok (k := 7) (by decide) G B Co D idle Gb.ie ((stepN_ok G (S.fm 59 rfl) perf).mf stepM)
  have RC := run_ok (k := 17) (by decide) G B Co D idle Gb.ie ((stepC_ok (k := 16) (kf := 16) G (S.fm 59 rfl) perf (by decide) (by decide)).mf stepM)
  have run1 : Rf PP w K mg base 9 (He.ga K C) (S_run1 K (He.ga K C) kd) := by
    cases hl : kd.lg with
    | false => exact run1_of (rfMono (run_plain hl (me "run" "Page" (by decide +kernel) (pf hl _ (by decide +kernel))).1 RN) (by decide))
    | true => exact run1_of (lrun_ok hl G B (me "run" "LoggedPage" (by decide +kernel) (lf hl _ (by decide +kernel))).1 S.sr (sp hl _ (by decide +kernel) (by decide +kernel)) (noted hl) RN (by decide))
  have runC : Rf PP w K mg base 19 (He.ga K C) (S_runL (S_stepC PP w K mg base 16 (He.ga K C) kd) K (He.ga K C) kd) := by
    cases hl : kd.lg with
    | false => exact rfMono (run_plain hl (me "run" "Page" (by decide +kernel) (pf hl _ (by decide +kernel))).1 RC) (by decide)
    | true => exact lrun_ok hl G B (me "run" "LoggedPage" (by decide +kernel) (lf hl _ (by decide +kernel))).1 S.sr (sp hl _ (by decide +kernel) (by decide +kernel)) (noted hl) RC (by decide)
  -- the console
  obtain ⟨Gc, cm, _⟩ := S.coc
  have n1 : ∃ a, mg "WrapError" = some (.ref a) ∧ Value.ref (He.ga K "WrapError") = .ref a := ⟨_, S.glo _ (by decide +kernel), rfl⟩
  have n2 : ∃ a, mg "NoPlace" = some (.ref a) ∧ Value.ref (He.ga K "NoPlace") = .ref a := ⟨_, S.glo _ (by decide +kernel), rfl⟩
  have n3 : ∃ a, mg "NoWidth" = some (.ref a) ∧ Value.ref (He.ga K "NoWidth") = .ref a := ⟨_, S.glo _ (by decide +kernel), rfl⟩
  have count := (count_ok Gc G B (S.fm 78 rfl) Gb.cw Gb.cl row).mf (cm _ (by decide +kernel))
  have query := (query_ok Gc G B (S.fm 79 rfl) look lines size row item count Gb.lt Gb.rt Gb.st).mf (cm _ (by decide +kernel))
  have ansE := (ansE_ok Gc G (S.fm 77 rfl) put cut resize turn undo).mf (cm _ (by decide +kernel))
  have answer := (answer_ok Gc B Co (S.fm 80 rfl) S.forms S.edits Gb.pn ansE query Gb.en n1 n2 n3 S.exm3).mf (cm _ (by decide +kernel))
  have exec := (exec_ok Gc B Co (S.fm 81 rfl) answer).mf (cm _ (by decide +kernel))
  -- the law's defs
  have llook := llook_ok G S.D_law_look look Gb.sl (S.glo "NoWidth" (by decide +kernel)) (S.exm1 "NoWidth" (by decide +kernel))
  have lq := lquery_ok G B S.D_law_query lines size row item Gb.cl Gb.sl Gb.rt Gb.st (S.glo "NoPlace" (by decide +kernel)) (S.exm1 "NoPlace" (by decide +kernel)) (S.glo "TooNarrow" (by decide +kernel)) (S.exm1 "TooNarrow" (by decide +kernel))
  have qr := queries_ok Gc G B S.D_law_queries_right Gb.dr Gb.wd row exec lq
  have looked := looked_ok Gc G B S.D_law_looked Gb.dr llook exec
  have did := did_ok S.D_law_did (apply_ok G S.D_law_apply put cut resize turn undo) Gb.ln Gb.lf n1 n2 S.exm2 (hact kd)
  have seen := seen_ok G B S.D_law_seen row size version edits len str
  have hear := hear_ok Gc G B S.D_law_hear Gb.wd row width exec qr llook run1
  have busy := busy_ok Gc G B (S.dfc TB) hear width runC
  exact ⟨⟨G, row, width, fun hl => ⟨_, _, prop_of (He.ba (He.ba (hL hl).2).2).1, log_ok G hl (S.fm 75 rfl)⟩, exec, qr, looked, llook, did, seen, eqP, p8, busy⟩, mk⟩
end
end HF
end
section
namespace HF
open PySem PySem.Spec PyProof.Rows L2 TX
section
variable {K : PySem.W.Frag} {h : Heap} {mg : Str → Option Value} {w : World} {base : Heap}
theorem k4_at (S : Said K h mg w) (Gb : Glob w K mg base) (TB : LamX.TabB base mg (cT K).1 (cT K).2) (ki : Int) (C : Str) (hc : cnOf ki = C) (hC : C ∈ clsNames) (hF : baseL.all (fun m => fromB C m == "Page") = true) (hW : (kdOf ki).nr = false → fromB C "accept" = "Page") (hN : (kdOf ki).nr = true → fromB C "accept" = "NarrowPage" ∧ narrowB K C = true)
    (hP : (kdOf ki).lg = false → supsL.all (fun m => fromB C m == "Page") = true) (hL : (kdOf ki).lg = true → supsL.all (fun m => fromB C m == "LoggedPage") = true ∧ loggedB K C = true) : Kd4 PP w K mg base (He.ga K "Console") (cT K).2 (1 < ki) (clOf K ki) (kdOf ki) ∧ Mkp PP w K mg base 5 (cnOf ki) (clOf K ki) (kdOf ki) := by
  subst hc
  obtain ⟨z, m⟩ := kd4_of S Gb hC (kdOf ki) hF hW hN hP hL TB
  exact ⟨⟨z.G, z.row, z.width, fun hl => z.log (by simp only [kdOf, decide_eq_true_eq]; omega), z.exec, z.qr, z.looked, z.look, z.did, z.seen, z.eq, z.nf, z.busy⟩, m⟩
theorem Said.kinds (S : Said K h mg w) (Gb : Glob w K mg base) (TB : LamX.TabB base mg (cT K).1 (cT K).2) (ki : Int) (k0 : 0 ≤ ki) (k1 : ki < 4) : Kd4 PP w K mg base (He.ga K "Console") (cT K).2 (1 < ki) (clOf K ki) (kdOf ki) ∧ Mkp PP w K mg base 5 (cnOf ki) (clOf K ki) (kdOf ki) := by
  have : ki = 0 ∨ ki = 1 ∨ ki = 2 ∨ ki = 3 := by omega
  rcases this with rfl | rfl | rfl | rfl
  · exact k4_at S Gb TB 0 "Page" (by decide +kernel) (by decide +kernel) (by decide +kernel) (fun _ => by decide +kernel) (fun z => by exact absurd z (by decide +kernel)) (fun _ => by decide +kernel) (fun z => by exact absurd z (by decide +kernel))
  · exact k4_at S Gb TB 1 "NarrowPage" (by decide +kernel) (by decide +kernel) (by decide +kernel) (fun z => by revert z; decide +kernel) (fun _ => ⟨by decide +kernel, S.f9⟩) (fun _ => by decide +kernel) (fun z => by exact absurd z (by decide +kernel))
  · exact k4_at S Gb TB 2 "LoggedPage" (by decide +kernel) (by decide +kernel) (by decide +kernel) (fun _ => by decide +kernel) (fun z => by exact absurd z (by decide +kernel)) (fun z => by revert z; decide +kernel) (fun _ => ⟨by decide +kernel, S.f6⟩)
  · exact k4_at S Gb TB 3 "LoggedNarrowPage" (by decide +kernel) (by decide +kernel) (by decide +kernel) (fun z => by revert z; decide +kernel) (fun _ => ⟨by decide +kernel, S.f10⟩) (fun z => by revert z; decide +kernel) (fun _ => ⟨by decide +kernel, S.f7⟩)
theorem Said.law (S : Said K h mg w) : ∃ fd, (∀ (s : Shared) (u : Value), BindsTo s fd ⟨[u], []⟩ [("_law_script", u)]) ∧ ∀ base : Heap, K.In base → base.Ns mainGlobals mg → LamX.TabB base mg (cT K).1 (cT K).2 → FnOkG PP w K mg base (L2N.CX PP w) 21 (He.ga K "law") fd P_law (S_law K (cT K).2) := by
  obtain ⟨fd, F⟩ := S.fn 48 rfl rfl
  have b := FunD.bindsA (ps := ["_law_script"]) F fun _ _ _ _ _ _ us hl => match us, hl with | [_], _ => rfl
  refine ⟨fd, fun s u => b s [u] rfl, fun base _ _ TB => ?_⟩
  have B := S.bi
  have Gb : Glob w K mg base := S.glob
  have pk := pick_ok S.D_law_pick B Gb.dr
  have rd := row_drawn_ok S.D_law_row_drawn B Gb.dr
  exact law_ok F S.coc.1 B (stream_ok B S.D_law_stream) Gb.dr pk Gb.wd (edit_ok S.D_law_edit B Gb.dr pk) (start_ok S.D_law_start B rd) (made_ok S.D_law_made fun ki a b => (S.kinds Gb TB ki a b).2) ⟨S.glo "Console" (by decide +kernel), _, _, S.coc.2.2, coinit_ok S.coc.1 (S.fm 76 rfl)⟩ (law_said_ok S.D_law_said B) (law_line_ok S.D_law_line B) fun ki a b => (S.kinds Gb TB ki a b).1
end
theorem the_walk {loose : List Str} {XP : (Str → Option Value) → Heap → Prop} : PySem.W.WalkO qv loose XP hookF.says R.toRowW (HandSHeadRun.topDef R.prog 101) [] (fun f vs => PySem.call f vs) := by
  refine Att.attach_callB (l := PySem.Challenge.rw_wrapwidths_k97_whole_console_beside_a_pa) (n := 63) rfl (by kernel_rfl) fun w s₀ s₁ mg mb fa o pm cd doc a vs ns G Y ho hd hcd hmg hobj hints hlen hbits hg => ?_
  obtain ⟨K, KX, e⟩ := Y
  have S : Said K s₁.heap mg w := ⟨KX, G.T.g, e⟩
  have hmg : mg "law" = some (.ref fa) := by
    have e : (HandSHeadRun.topDef R.prog 101).name = ("law" : Str) := by kernel_rfl
    rw [← e]
    exact hmg
  have ef : fa = He.ga K "law" := by
    have := hmg.symm.trans (S.glo "law" (by decide +kernel))
    cases this
    rfl
  subst ef
  obtain ⟨t1, t2⟩ := He.ba S.f21
  obtain ⟨t2, t3⟩ := He.ba t2
  obtain ⟨fd, hb, hF⟩ := S.law
  have tb : s₁.heap.get? (cT K).2 = some { cls := .none, data := .fields #[] } := by
    cases q : s₁.heap.get? (cT K).2 with
    | none => rw [q] at t3; cases t3
    | some o =>
      rw [q] at t3
      rw [He.emptyTab_eq t3]
  exact end_call KX G.T.g G.T.b G.T.builtins G.T.nolimit hg tb (Option.isNone_iff_eq_none.mp t2) (PySem.W.codeHd_of_K KX t1) G.T.bmain hobj hints (Nat.le_trans hlen (by decide)) ⟨rfl, by decide, by decide⟩ hF hb
end HF
end
section
open PySem PySem.W PySem.Calls PyProof.Rows
theorem PySem.Challenge.cw_wrapwidths_k97_whole_console_beside_a_pa_holds : PySem.Challenge.rw_wrapwidths_k97_whole_console_beside_a_pa.Holds := by
  w_on; o_law
  refine HandSHeadRun.head_any (r := HF.R) (q := HF.qv) (H := HF.hookF) (ob := HF.ob) (M := 20000) (loose := HF.names) (d := HandSHeadRun.topDef HF.R.prog 101) (kwd := []) HF.ob_eq (by kernel_rfl) (fun s => by kernel_rfl) HF.run (by kernel_rfl) (by kernel_rfl) (by kernel_rfl) (by rfl) (by first | assumption | decide +kernel) (by decide +kernel) ⟨rfl, rfl, rfl, rfl, rfl, by decide +kernel⟩ ?hw ?hc
  case hw => w_witness2
  case hc => exact HF.the_walk
end

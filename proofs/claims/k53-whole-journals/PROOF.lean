import PyProof.Rows.All
import Wide.All
import OpenK.AllK
import Wide.FinOn
import KE.KStateDown
import KE.KExcSuper
import PyProof.ReprRoads
import HandS.ForMost
import HandS.ForExc
import HandS.Walk
import HandS.Evl
import HandS.Flow
import HandS.Style
import HandS.More
import HandS.Conv
import HandS.IsInst
import HandS.StrMore
import HandS.TupAny
import HandS.ExcInit
import HandS.Defaults
import HandS.Codes
import HandS.EndBits
import HandS.Head0
import HandS.Head1
import HandS.Head2
import HandS.HeadEnd
import HandS.HeadHook1
import HandS.HeadHook2
import PySem.Challenge.RW_outsoonest_k53_whole_journals_cut_anywhe
import KE.GoesRaise
import KE.GoesMore
import HandS.WideMore
import PyProof.ReprReads
import PyProof.P3Eq
import PyProof.EqLayable
import HandS.Replace
import PyProof.ReprLen
set_option Elab.async false
set_option linter.all false
set_option maxRecDepth 100000
set_option maxHeartbeats 4000000
namespace K53
open PySem PySem.Spec PyProof.Rows L2
/-! ### the text by places (printed by gen.py) -/
def top (i : Nat) : Stmt := PySem.Challenge.pw_outsoonest_k53_whole_journals_cut_anywhe.main.body.getD i (.Pass ⟨0, 0, 0, 0⟩)
abbrev s_BadOctets_init : Stmt := inClass (top 2) 0
abbrev s_BadRow_init : Stmt := inClass (top 3) 0
abbrev s_Refused_init : Stmt := inClass (top 4) 0
abbrev s_Broken_init : Stmt := inClass (top 5) 0
abbrev s_is_integer : Stmt := top 8
abbrev n_is_integer : List Str := ["value"]
abbrev p_is_integer : List Str := ["value"]
theorem sc_is_integer : FnScope n_is_integer p_is_integer (defScope s_is_integer) := ⟨rfl, rfl, rfl, by decide +kernel, rfl, by decide +kernel, by decide +kernel⟩
abbrev s_is_number : Stmt := top 9
abbrev n_is_number : List Str := ["value"]
abbrev p_is_number : List Str := ["value"]
theorem sc_is_number : FnScope n_is_number p_is_number (defScope s_is_number) := ⟨rfl, rfl, rfl, by decide +kernel, rfl, by decide +kernel, by decide +kernel⟩
abbrev s_is_below : Stmt := top 10
abbrev n_is_below : List Str := ["value", "most"]
abbrev p_is_below : List Str := ["value", "most"]
theorem sc_is_below : FnScope n_is_below p_is_below (defScope s_is_below) := ⟨rfl, rfl, rfl, by decide +kernel, rfl, by decide +kernel, by decide +kernel⟩
abbrev s_is_sequence : Stmt := top 11
abbrev n_is_sequence : List Str := ["value"]
abbrev p_is_sequence : List Str := ["value"]
theorem sc_is_sequence : FnScope n_is_sequence p_is_sequence (defScope s_is_sequence) := ⟨rfl, rfl, rfl, by decide +kernel, rfl, by decide +kernel, by decide +kernel⟩
abbrev s_is_text : Stmt := top 12
abbrev n_is_text : List Str := ["value"]
abbrev p_is_text : List Str := ["value"]
theorem sc_is_text : FnScope n_is_text p_is_text (defScope s_is_text) := ⟨rfl, rfl, rfl, by decide +kernel, rfl, by decide +kernel, by decide +kernel⟩
abbrev s_need_octets : Stmt := top 13
abbrev n_need_octets : List Str := ["value", "at", "octet"]
abbrev p_need_octets : List Str := ["value"]
theorem sc_need_octets : FnScope n_need_octets p_need_octets (defScope s_need_octets) := ⟨rfl, rfl, rfl, by decide +kernel, rfl, by decide +kernel, by decide +kernel⟩
abbrev s_is_sign : Stmt := top 25
abbrev n_is_sign : List Str := ["sign"]
abbrev p_is_sign : List Str := ["sign"]
theorem sc_is_sign : FnScope n_is_sign p_is_sign (defScope s_is_sign) := ⟨rfl, rfl, rfl, by decide +kernel, rfl, by decide +kernel, by decide +kernel⟩
abbrev s_is_part : Stmt := top 26
abbrev n_is_part : List Str := ["value", "depth", "sign", "part"]
abbrev p_is_part : List Str := ["value", "depth"]
theorem sc_is_part : FnScope n_is_part p_is_part (defScope s_is_part) := ⟨rfl, rfl, rfl, by decide +kernel, rfl, by decide +kernel, by decide +kernel⟩
abbrev s_as_value : Stmt := top 27
abbrev n_as_value : List Str := ["value", "part"]
abbrev p_as_value : List Str := ["value"]
theorem sc_as_value : FnScope n_as_value p_as_value (defScope s_as_value) := ⟨rfl, rfl, rfl, by decide +kernel, rfl, by decide +kernel, by decide +kernel⟩
abbrev s_need_row : Stmt := top 28
abbrev n_need_row : List Str := ["value", "at", "part"]
abbrev p_need_row : List Str := ["value"]
theorem sc_need_row : FnScope n_need_row p_need_row (defScope s_need_row) := ⟨rfl, rfl, rfl, by decide +kernel, rfl, by decide +kernel, by decide +kernel⟩
abbrev s_figures_of : Stmt := top 29
abbrev n_figures_of : List Str := ["number", "found"]
abbrev p_figures_of : List Str := ["number"]
theorem sc_figures_of : FnScope n_figures_of p_figures_of (defScope s_figures_of) := ⟨rfl, rfl, rfl, by decide +kernel, rfl, by decide +kernel, by decide +kernel⟩
abbrev s_number_form : Stmt := top 30
abbrev n_number_form : List Str := ["number", "figures"]
abbrev p_number_form : List Str := ["number"]
theorem sc_number_form : FnScope n_number_form p_number_form (defScope s_number_form) := ⟨rfl, rfl, rfl, by decide +kernel, rfl, by decide +kernel, by decide +kernel⟩
abbrev s_written : Stmt := top 31
abbrev n_written : List Str := ["value", "found", "part", "sign"]
abbrev p_written : List Str := ["value"]
theorem sc_written : FnScope n_written p_written (defScope s_written) := ⟨rfl, rfl, rfl, by decide +kernel, rfl, by decide +kernel, by decide +kernel⟩
abbrev s_write_row : Stmt := top 32
abbrev n_write_row : List Str := ["row"]
abbrev p_write_row : List Str := ["row"]
theorem sc_write_row : FnScope n_write_row p_write_row (defScope s_write_row) := ⟨rfl, rfl, rfl, by decide +kernel, rfl, by decide +kernel, by decide +kernel⟩
abbrev s_Reading_init : Stmt := inClass (top 33) 0
abbrev n_Reading_init : List Str := ["self", "octets", "at", "heals"]
abbrev p_Reading_init : List Str := ["self", "octets", "at", "heals"]
theorem sc_Reading_init : FnScope n_Reading_init p_Reading_init (defScope s_Reading_init) := ⟨rfl, rfl, rfl, by decide +kernel, rfl, by decide +kernel, by decide +kernel⟩
abbrev s_Reading_take : Stmt := inClass (top 33) 1
abbrev n_Reading_take : List Str := ["self", "least", "most", "here"]
abbrev p_Reading_take : List Str := ["self", "least", "most"]
theorem sc_Reading_take : FnScope n_Reading_take p_Reading_take (defScope s_Reading_take) := ⟨rfl, rfl, rfl, by decide +kernel, rfl, by decide +kernel, by decide +kernel⟩
abbrev s_Reading_take_figures : Stmt := inClass (top 33) 2
abbrev n_Reading_take_figures : List Str := ["self", "many", "most", "found", "turn"]
abbrev p_Reading_take_figures : List Str := ["self", "many", "most"]
theorem sc_Reading_take_figures : FnScope n_Reading_take_figures p_Reading_take_figures (defScope s_Reading_take_figures) := ⟨rfl, rfl, rfl, by decide +kernel, rfl, by decide +kernel, by decide +kernel⟩
abbrev s_Reading_take_number : Stmt := inClass (top 33) 3
abbrev n_Reading_take_number : List Str := ["self"]
abbrev p_Reading_take_number : List Str := ["self"]
theorem sc_Reading_take_number : FnScope n_Reading_take_number p_Reading_take_number (defScope s_Reading_take_number) := ⟨rfl, rfl, rfl, by decide +kernel, rfl, by decide +kernel, by decide +kernel⟩
abbrev s_Reading_take_parts : Stmt := inClass (top 33) 4
abbrev n_Reading_take_parts : List Str := ["self", "least", "many"]
abbrev p_Reading_take_parts : List Str := ["self", "least"]
theorem sc_Reading_take_parts : FnScope n_Reading_take_parts p_Reading_take_parts (defScope s_Reading_take_parts) := ⟨rfl, rfl, rfl, by decide +kernel, rfl, by decide +kernel, by decide +kernel⟩
abbrev s_Reading_take_text : Stmt := inClass (top 33) 5
abbrev n_Reading_take_text : List Str := ["self", "many", "turn"]
abbrev p_Reading_take_text : List Str := ["self"]
theorem sc_Reading_take_text : FnScope n_Reading_take_text p_Reading_take_text (defScope s_Reading_take_text) := ⟨rfl, rfl, rfl, by decide +kernel, rfl, by decide +kernel, by decide +kernel⟩
abbrev s_Reading_take_value : Stmt := inClass (top 33) 6
abbrev n_Reading_take_value : List Str := ["self", "depth", "kind", "many", "turn"]
abbrev p_Reading_take_value : List Str := ["self", "depth"]
theorem sc_Reading_take_value : FnScope n_Reading_take_value p_Reading_take_value (defScope s_Reading_take_value) := ⟨rfl, rfl, rfl, by decide +kernel, rfl, by decide +kernel, by decide +kernel⟩
abbrev s_Reading_take_row : Stmt := inClass (top 33) 7
abbrev n_Reading_take_row : List Str := ["self", "many", "first", "turn"]
abbrev p_Reading_take_row : List Str := ["self"]
theorem sc_Reading_take_row : FnScope n_Reading_take_row p_Reading_take_row (defScope s_Reading_take_row) := ⟨rfl, rfl, rfl, by decide +kernel, rfl, by decide +kernel, by decide +kernel⟩
abbrev s_begun : Stmt := top 34
abbrev n_begun : List Str := ["octets", "at", "told"]
abbrev p_begun : List Str := ["octets", "at"]
theorem sc_begun : FnScope n_begun p_begun (defScope s_begun) := ⟨rfl, rfl, rfl, by decide +kernel, rfl, by decide +kernel, by decide +kernel⟩
abbrev s_read_row : Stmt := top 35
abbrev n_read_row : List Str := ["octets", "at", "reading", "found"]
abbrev p_read_row : List Str := ["octets", "at"]
theorem sc_read_row : FnScope n_read_row p_read_row (defScope s_read_row) := ⟨rfl, rfl, rfl, by decide +kernel, rfl, by decide +kernel, by decide +kernel⟩
abbrev s_read_rows : Stmt := top 36
abbrev n_read_rows : List Str := ["octets", "told", "found", "behind", "reading", "row", "fault"]
abbrev p_read_rows : List Str := ["octets"]
theorem sc_read_rows : FnScope n_read_rows p_read_rows (defScope s_read_rows) := ⟨rfl, rfl, rfl, by decide +kernel, rfl, by decide +kernel, by decide +kernel⟩
abbrev s_page_octets : Stmt := top 39
abbrev n_page_octets : List Str := ["term", "rows", "found", "row"]
abbrev p_page_octets : List Str := ["term", "rows"]
theorem sc_page_octets : FnScope n_page_octets p_page_octets (defScope s_page_octets) := ⟨rfl, rfl, rfl, by decide +kernel, rfl, by decide +kernel, by decide +kernel⟩
abbrev s_is_head : Stmt := top 40
abbrev n_is_head : List Str := ["row"]
abbrev p_is_head : List Str := ["row"]
theorem sc_is_head : FnScope n_is_head p_is_head (defScope s_is_head) := ⟨rfl, rfl, rfl, by decide +kernel, rfl, by decide +kernel, by decide +kernel⟩
abbrev s_page_told : Stmt := top 41
abbrev n_page_told : List Str := ["octets", "rows", "behind"]
abbrev p_page_told : List Str := ["octets"]
theorem sc_page_told : FnScope n_page_told p_page_told (defScope s_page_told) := ⟨rfl, rfl, rfl, by decide +kernel, rfl, by decide +kernel, by decide +kernel⟩
abbrev s_plain_journal : Stmt := top 42
abbrev n_plain_journal : List Str := ["pages", "best", "page", "octets", "told"]
abbrev p_plain_journal : List Str := ["pages"]
theorem sc_plain_journal : FnScope n_plain_journal p_plain_journal (defScope s_plain_journal) := ⟨rfl, rfl, rfl, by decide +kernel, rfl, by decide +kernel, by decide +kernel⟩
abbrev s_Journal_init : Stmt := inClass (top 43) 0
abbrev n_Journal_init : List Str := ["self"]
abbrev p_Journal_init : List Str := ["self"]
theorem sc_Journal_init : FnScope n_Journal_init p_Journal_init (defScope s_Journal_init) := ⟨rfl, rfl, rfl, by decide +kernel, rfl, by decide +kernel, by decide +kernel⟩
abbrev s_Journal_written : Stmt := inClass (top 43) 1
abbrev n_Journal_written : List Str := ["self", "octets"]
abbrev p_Journal_written : List Str := ["self", "octets"]
theorem sc_Journal_written : FnScope n_Journal_written p_Journal_written (defScope s_Journal_written) := ⟨rfl, rfl, rfl, by decide +kernel, rfl, by decide +kernel, by decide +kernel⟩
abbrev s_Journal_lay : Stmt := inClass (top 43) 2
abbrev n_Journal_lay : List Str := ["self", "row", "octets"]
abbrev p_Journal_lay : List Str := ["self", "row"]
theorem sc_Journal_lay : FnScope n_Journal_lay p_Journal_lay (defScope s_Journal_lay) := ⟨rfl, rfl, rfl, by decide +kernel, rfl, by decide +kernel, by decide +kernel⟩
abbrev s_Journal_keep : Stmt := inClass (top 43) 3
abbrev n_Journal_keep : List Str := ["self"]
abbrev p_Journal_keep : List Str := ["self"]
theorem sc_Journal_keep : FnScope n_Journal_keep p_Journal_keep (defScope s_Journal_keep) := ⟨rfl, rfl, rfl, by decide +kernel, rfl, by decide +kernel, by decide +kernel⟩
abbrev s_Journal_loose : Stmt := inClass (top 43) 4
abbrev n_Journal_loose : List Str := ["self"]
abbrev p_Journal_loose : List Str := ["self"]
theorem sc_Journal_loose : FnScope n_Journal_loose p_Journal_loose (defScope s_Journal_loose) := ⟨rfl, rfl, rfl, by decide +kernel, rfl, by decide +kernel, by decide +kernel⟩
abbrev s_Journal_begin : Stmt := inClass (top 43) 5
abbrev n_Journal_begin : List Str := ["self", "rows", "octets"]
abbrev p_Journal_begin : List Str := ["self", "rows"]
theorem sc_Journal_begin : FnScope n_Journal_begin p_Journal_begin (defScope s_Journal_begin) := ⟨rfl, rfl, rfl, by decide +kernel, rfl, by decide +kernel, by decide +kernel⟩
abbrev s_Journal_cut : Stmt := inClass (top 43) 6
abbrev n_Journal_cut : List Str := ["self", "left", "behind"]
abbrev p_Journal_cut : List Str := ["self", "left"]
theorem sc_Journal_cut : FnScope n_Journal_cut p_Journal_cut (defScope s_Journal_cut) := ⟨rfl, rfl, rfl, by decide +kernel, rfl, by decide +kernel, by decide +kernel⟩
abbrev s_open_journal : Stmt := top 44
abbrev n_open_journal : List Str := ["pages", "found", "behind"]
abbrev p_open_journal : List Str := ["pages"]
theorem sc_open_journal : FnScope n_open_journal p_open_journal (defScope s_open_journal) := ⟨rfl, rfl, rfl, by decide +kernel, rfl, by decide +kernel, by decide +kernel⟩
abbrev s_row_ends : Stmt := top 45
abbrev n_row_ends : List Str := ["octets", "found", "behind"]
abbrev p_row_ends : List Str := ["octets"]
theorem sc_row_ends : FnScope n_row_ends p_row_ends (defScope s_row_ends) := ⟨rfl, rfl, rfl, by decide +kernel, rfl, by decide +kernel, by decide +kernel⟩
abbrev s_journal_cuts : Stmt := top 46
abbrev n_journal_cuts : List Str := ["journal", "octets", "found", "left", "cut", "rows"]
abbrev p_journal_cuts : List Str := ["journal"]
theorem sc_journal_cuts : FnScope n_journal_cuts p_journal_cuts (defScope s_journal_cuts) := ⟨rfl, rfl, rfl, by decide +kernel, rfl, by decide +kernel, by decide +kernel⟩
abbrev s__law_box : Stmt := top 48
abbrev n__law_box : List Str := ["_law_script", "_law_k", "_law_cell", "_law_great"]
abbrev p__law_box : List Str := ["_law_script", "_law_k"]
theorem sc__law_box : FnScope n__law_box p__law_box (defScope s__law_box) := ⟨rfl, rfl, rfl, by decide +kernel, rfl, by decide +kernel, by decide +kernel⟩
abbrev s__law_take : Stmt := top 49
abbrev n__law_take : List Str := ["_law_box_here", "_law_many", "_law_digit", "_law_raw"]
abbrev p__law_take : List Str := ["_law_box_here", "_law_many"]
theorem sc__law_take : FnScope n__law_take p__law_take (defScope s__law_take) := ⟨rfl, rfl, rfl, by decide +kernel, rfl, by decide +kernel, by decide +kernel⟩
abbrev s__law_pick : Stmt := top 50
abbrev n__law_pick : List Str := ["_law_box_here", "_law_some"]
abbrev p__law_pick : List Str := ["_law_box_here", "_law_some"]
theorem sc__law_pick : FnScope n__law_pick p__law_pick (defScope s__law_pick) := ⟨rfl, rfl, rfl, by decide +kernel, rfl, by decide +kernel, by decide +kernel⟩
abbrev s__law_number : Stmt := top 51
abbrev n__law_number : List Str := ["_law_number_here", "_law_figures", "_law_turn"]
abbrev p__law_number : List Str := ["_law_number_here"]
theorem sc__law_number : FnScope n__law_number p__law_number (defScope s__law_number) := ⟨rfl, rfl, rfl, by decide +kernel, rfl, by decide +kernel, by decide +kernel⟩
abbrev s__law_form : Stmt := top 52
abbrev n__law_form : List Str := ["_law_value", "_law_found", "_law_part", "_law_sign"]
abbrev p__law_form : List Str := ["_law_value"]
theorem sc__law_form : FnScope n__law_form p__law_form (defScope s__law_form) := ⟨rfl, rfl, rfl, by decide +kernel, rfl, by decide +kernel, by decide +kernel⟩
abbrev s__law_page : Stmt := top 53
abbrev n__law_page : List Str := ["_law_term", "_law_many", "_law_rows", "_law_found", "_law_row_here"]
abbrev p__law_page : List Str := ["_law_term", "_law_many", "_law_rows"]
theorem sc__law_page : FnScope n__law_page p__law_page (defScope s__law_page) := ⟨rfl, rfl, rfl, by decide +kernel, rfl, by decide +kernel, by decide +kernel⟩
abbrev s__law_lens : Stmt := top 54
abbrev n__law_lens : List Str := ["_law_rows", "_law_row_here"]
abbrev p__law_lens : List Str := ["_law_rows"]
theorem sc__law_lens : FnScope n__law_lens p__law_lens (defScope s__law_lens) := ⟨rfl, rfl, rfl, by decide +kernel, rfl, by decide +kernel, by decide +kernel⟩
abbrev s__law_whole_rows : Stmt := top 55
abbrev n__law_whole_rows : List Str := ["_law_lens_here", "_law_octets", "_law_many", "_law_one"]
abbrev p__law_whole_rows : List Str := ["_law_lens_here", "_law_octets"]
theorem sc__law_whole_rows : FnScope n__law_whole_rows p__law_whole_rows (defScope s__law_whole_rows) := ⟨rfl, rfl, rfl, by decide +kernel, rfl, by decide +kernel, by decide +kernel⟩
abbrev s__law_row : Stmt := top 56
abbrev n__law_row : List Str := ["_law_box_here", "_law_number_here"]
abbrev p__law_row : List Str := ["_law_box_here"]
theorem sc__law_row : FnScope n__law_row p__law_row (defScope s__law_row) := ⟨rfl, rfl, rfl, by decide +kernel, rfl, by decide +kernel, by decide +kernel⟩
abbrev s__law_behind : Stmt := top 57
abbrev n__law_behind : List Str := ["_law_own", "_law_lens_here", "_law_left", "_law_rows", "_law_many", "_law_kept", "_law_page_here", "_law_term", "_law_elder", "_law_octets", "_law_whole"]
abbrev p__law_behind : List Str := ["_law_own", "_law_lens_here", "_law_left"]
theorem sc__law_behind : FnScope n__law_behind p__law_behind (defScope s__law_behind) := ⟨rfl, rfl, rfl, by decide +kernel, rfl, by decide +kernel, by decide +kernel⟩
abbrev s__law_is_right : Stmt := top 58
abbrev n__law_is_right : List Str := ["_law_journal", "_law_own", "_law_rows", "_law_many", "_law_kept", "_law_page_here", "_law_term", "_law_elder", "_law_octets", "_law_lens_here", "_law_cuts", "_law_left", "_law_some"]
abbrev p__law_is_right : List Str := ["_law_journal", "_law_own"]
theorem sc__law_is_right : FnScope n__law_is_right p__law_is_right (defScope s__law_is_right) := ⟨rfl, rfl, rfl, by decide +kernel, rfl, by decide +kernel, by decide +kernel⟩
abbrev s__law_cut_right : Stmt := top 59
abbrev n__law_cut_right : List Str := ["_law_box_here", "_law_journal", "_law_own", "_law_loose", "_law_left", "_law_rows", "_law_term", "_law_page_here", "_law_other", "_law_told", "_law_again", "_law_octets"]
abbrev p__law_cut_right : List Str := ["_law_box_here", "_law_journal", "_law_own"]
theorem sc__law_cut_right : FnScope n__law_cut_right p__law_cut_right (defScope s__law_cut_right) := ⟨rfl, rfl, rfl, by decide +kernel, rfl, by decide +kernel, by decide +kernel⟩
abbrev s_law : Stmt := top 60
abbrev n_law : List Str := ["_law_script", "_law_k", "_law_box_here", "_law_journal", "_law_own", "_law_turn", "_law_way", "_law_row_here", "_law_rows"]
abbrev p_law : List Str := ["_law_script"]
theorem sc_law : FnScope n_law p_law (defScope s_law) := ⟨rfl, rfl, rfl, by decide +kernel, rfl, by decide +kernel, by decide +kernel⟩
/-! ### the head's lists -/
def dd_is_integer : He.DefD := ⟨("is_integer", none), "is_integer", "is_integer", defArgs s_is_integer, defBody s_is_integer, defScope s_is_integer, [], []⟩
def dd_is_number : He.DefD := ⟨("is_number", none), "is_number", "is_number", defArgs s_is_number, defBody s_is_number, defScope s_is_number, [], []⟩
def dd_is_below : He.DefD := ⟨("is_below", none), "is_below", "is_below", defArgs s_is_below, defBody s_is_below, defScope s_is_below, [], []⟩
def dd_is_sequence : He.DefD := ⟨("is_sequence", none), "is_sequence", "is_sequence", defArgs s_is_sequence, defBody s_is_sequence, defScope s_is_sequence, [], []⟩
def dd_is_text : He.DefD := ⟨("is_text", none), "is_text", "is_text", defArgs s_is_text, defBody s_is_text, defScope s_is_text, [], []⟩
def dd_need_octets : He.DefD := ⟨("need_octets", none), "need_octets", "need_octets", defArgs s_need_octets, defBody s_need_octets, defScope s_need_octets, [], []⟩
def dd_is_sign : He.DefD := ⟨("is_sign", none), "is_sign", "is_sign", defArgs s_is_sign, defBody s_is_sign, defScope s_is_sign, [], []⟩
def dd_is_part : He.DefD := ⟨("is_part", none), "is_part", "is_part", defArgs s_is_part, defBody s_is_part, defScope s_is_part, [], []⟩
def dd_as_value : He.DefD := ⟨("as_value", none), "as_value", "as_value", defArgs s_as_value, defBody s_as_value, defScope s_as_value, [], []⟩
def dd_need_row : He.DefD := ⟨("need_row", none), "need_row", "need_row", defArgs s_need_row, defBody s_need_row, defScope s_need_row, [], []⟩
def dd_figures_of : He.DefD := ⟨("figures_of", none), "figures_of", "figures_of", defArgs s_figures_of, defBody s_figures_of, defScope s_figures_of, [], []⟩
def dd_number_form : He.DefD := ⟨("number_form", none), "number_form", "number_form", defArgs s_number_form, defBody s_number_form, defScope s_number_form, [], []⟩
def dd_written : He.DefD := ⟨("written", none), "written", "written", defArgs s_written, defBody s_written, defScope s_written, [], []⟩
def dd_write_row : He.DefD := ⟨("write_row", none), "write_row", "write_row", defArgs s_write_row, defBody s_write_row, defScope s_write_row, [], []⟩
def dd_Reading_init : He.DefD := ⟨("Reading", some "__init__"), "__init__", "Reading.__init__", defArgs s_Reading_init, defBody s_Reading_init, defScope s_Reading_init, [], []⟩
def dd_Reading_take : He.DefD := ⟨("Reading", some "take"), "take", "Reading.take", defArgs s_Reading_take, defBody s_Reading_take, defScope s_Reading_take, [], []⟩
def dd_Reading_take_figures : He.DefD := ⟨("Reading", some "take_figures"), "take_figures", "Reading.take_figures", defArgs s_Reading_take_figures, defBody s_Reading_take_figures, defScope s_Reading_take_figures, [], []⟩
def dd_Reading_take_number : He.DefD := ⟨("Reading", some "take_number"), "take_number", "Reading.take_number", defArgs s_Reading_take_number, defBody s_Reading_take_number, defScope s_Reading_take_number, [], []⟩
def dd_Reading_take_parts : He.DefD := ⟨("Reading", some "take_parts"), "take_parts", "Reading.take_parts", defArgs s_Reading_take_parts, defBody s_Reading_take_parts, defScope s_Reading_take_parts, [], []⟩
def dd_Reading_take_text : He.DefD := ⟨("Reading", some "take_text"), "take_text", "Reading.take_text", defArgs s_Reading_take_text, defBody s_Reading_take_text, defScope s_Reading_take_text, [], []⟩
def dd_Reading_take_value : He.DefD := ⟨("Reading", some "take_value"), "take_value", "Reading.take_value", defArgs s_Reading_take_value, defBody s_Reading_take_value, defScope s_Reading_take_value, [], []⟩
def dd_Reading_take_row : He.DefD := ⟨("Reading", some "take_row"), "take_row", "Reading.take_row", defArgs s_Reading_take_row, defBody s_Reading_take_row, defScope s_Reading_take_row, [], []⟩
def dd_begun : He.DefD := ⟨("begun", none), "begun", "begun", defArgs s_begun, defBody s_begun, defScope s_begun, [], []⟩
def dd_read_row : He.DefD := ⟨("read_row", none), "read_row", "read_row", defArgs s_read_row, defBody s_read_row, defScope s_read_row, [], []⟩
def dd_read_rows : He.DefD := ⟨("read_rows", none), "read_rows", "read_rows", defArgs s_read_rows, defBody s_read_rows, defScope s_read_rows, [], []⟩
def dd_page_octets : He.DefD := ⟨("page_octets", none), "page_octets", "page_octets", defArgs s_page_octets, defBody s_page_octets, defScope s_page_octets, [], []⟩
def dd_is_head : He.DefD := ⟨("is_head", none), "is_head", "is_head", defArgs s_is_head, defBody s_is_head, defScope s_is_head, [], []⟩
def dd_page_told : He.DefD := ⟨("page_told", none), "page_told", "page_told", defArgs s_page_told, defBody s_page_told, defScope s_page_told, [], []⟩
def dd_plain_journal : He.DefD := ⟨("plain_journal", none), "plain_journal", "plain_journal", defArgs s_plain_journal, defBody s_plain_journal, defScope s_plain_journal, [], []⟩
def dd_Journal_init : He.DefD := ⟨("Journal", some "__init__"), "__init__", "Journal.__init__", defArgs s_Journal_init, defBody s_Journal_init, defScope s_Journal_init, [], []⟩
def dd_Journal_written : He.DefD := ⟨("Journal", some "written"), "written", "Journal.written", defArgs s_Journal_written, defBody s_Journal_written, defScope s_Journal_written, [], []⟩
def dd_Journal_lay : He.DefD := ⟨("Journal", some "lay"), "lay", "Journal.lay", defArgs s_Journal_lay, defBody s_Journal_lay, defScope s_Journal_lay, [], []⟩
def dd_Journal_keep : He.DefD := ⟨("Journal", some "keep"), "keep", "Journal.keep", defArgs s_Journal_keep, defBody s_Journal_keep, defScope s_Journal_keep, [], []⟩
def dd_Journal_loose : He.DefD := ⟨("Journal", some "loose"), "loose", "Journal.loose", defArgs s_Journal_loose, defBody s_Journal_loose, defScope s_Journal_loose, [], []⟩
def dd_Journal_begin : He.DefD := ⟨("Journal", some "begin"), "begin", "Journal.begin", defArgs s_Journal_begin, defBody s_Journal_begin, defScope s_Journal_begin, [], []⟩
def dd_Journal_cut : He.DefD := ⟨("Journal", some "cut"), "cut", "Journal.cut", defArgs s_Journal_cut, defBody s_Journal_cut, defScope s_Journal_cut, [], []⟩
def dd_open_journal : He.DefD := ⟨("open_journal", none), "open_journal", "open_journal", defArgs s_open_journal, defBody s_open_journal, defScope s_open_journal, [], []⟩
def dd_row_ends : He.DefD := ⟨("row_ends", none), "row_ends", "row_ends", defArgs s_row_ends, defBody s_row_ends, defScope s_row_ends, [], []⟩
def dd_journal_cuts : He.DefD := ⟨("journal_cuts", none), "journal_cuts", "journal_cuts", defArgs s_journal_cuts, defBody s_journal_cuts, defScope s_journal_cuts, [], []⟩
def dd__law_box : He.DefD := ⟨("_law_box", none), "_law_box", "_law_box", defArgs s__law_box, defBody s__law_box, defScope s__law_box, [], []⟩
def dd__law_take : He.DefD := ⟨("_law_take", none), "_law_take", "_law_take", defArgs s__law_take, defBody s__law_take, defScope s__law_take, [], []⟩
def dd__law_pick : He.DefD := ⟨("_law_pick", none), "_law_pick", "_law_pick", defArgs s__law_pick, defBody s__law_pick, defScope s__law_pick, [], []⟩
def dd__law_number : He.DefD := ⟨("_law_number", none), "_law_number", "_law_number", defArgs s__law_number, defBody s__law_number, defScope s__law_number, [], []⟩
def dd__law_form : He.DefD := ⟨("_law_form", none), "_law_form", "_law_form", defArgs s__law_form, defBody s__law_form, defScope s__law_form, [], []⟩
def dd__law_page : He.DefD := ⟨("_law_page", none), "_law_page", "_law_page", defArgs s__law_page, defBody s__law_page, defScope s__law_page, [], []⟩
def dd__law_lens : He.DefD := ⟨("_law_lens", none), "_law_lens", "_law_lens", defArgs s__law_lens, defBody s__law_lens, defScope s__law_lens, [], []⟩
def dd__law_whole_rows : He.DefD := ⟨("_law_whole_rows", none), "_law_whole_rows", "_law_whole_rows", defArgs s__law_whole_rows, defBody s__law_whole_rows, defScope s__law_whole_rows, [], []⟩
def dd__law_row : He.DefD := ⟨("_law_row", none), "_law_row", "_law_row", defArgs s__law_row, defBody s__law_row, defScope s__law_row, [], []⟩
def dd__law_behind : He.DefD := ⟨("_law_behind", none), "_law_behind", "_law_behind", defArgs s__law_behind, defBody s__law_behind, defScope s__law_behind, [], []⟩
def dd__law_is_right : He.DefD := ⟨("_law_is_right", none), "_law_is_right", "_law_is_right", defArgs s__law_is_right, defBody s__law_is_right, defScope s__law_is_right, [], []⟩
def dd__law_cut_right : He.DefD := ⟨("_law_cut_right", none), "_law_cut_right", "_law_cut_right", defArgs s__law_cut_right, defBody s__law_cut_right, defScope s__law_cut_right, [], []⟩
def dd_law : He.DefD := ⟨("law", none), "law", "law", defArgs s_law, defBody s_law, defScope s_law, [], []⟩
def fn0 : List He.DefD := [dd_is_integer, dd_is_number, dd_is_below, dd_is_sequence, dd_is_text, dd_need_octets, dd_is_sign, dd_is_part, dd_as_value, dd_need_row, dd_figures_of, dd_number_form, dd_written, dd_write_row, dd_Reading_init, dd_Reading_take, dd_Reading_take_figures]
def fn1 : List He.DefD := [dd_Reading_take_number, dd_Reading_take_parts, dd_Reading_take_text, dd_Reading_take_value, dd_Reading_take_row, dd_begun, dd_read_row, dd_read_rows, dd_page_octets, dd_is_head, dd_page_told, dd_plain_journal, dd_Journal_init, dd_Journal_written, dd_Journal_lay, dd_Journal_keep, dd_Journal_loose]
def fn2 : List He.DefD := [dd_Journal_begin, dd_Journal_cut, dd_open_journal, dd_row_ends, dd_journal_cuts, dd__law_box, dd__law_take, dd__law_pick, dd__law_number, dd__law_form, dd__law_page, dd__law_lens, dd__law_whole_rows, dd__law_row, dd__law_behind, dd__law_is_right, dd__law_cut_right, dd_law]
def fn : List He.DefD := fn0 ++ (fn1 ++ fn2)
def fa0 : List He.Fa := [.glo "OutError", .glo "BadOctets", .glo "BadRow", .glo "Refused", .glo "Broken", .glo "is_integer", .glo "is_number", .glo "is_below", .glo "is_sequence", .glo "is_text", .glo "need_octets", .glo "is_sign", .glo "is_part", .glo "as_value", .glo "need_row", .glo "figures_of", .glo "number_form", .glo "written", .glo "write_row", .glo "Reading", .glo "begun", .glo "read_row", .glo "read_rows", .glo "page_octets"]
def fa1 : List He.Fa := [.glo "is_head", .glo "page_told", .glo "plain_journal", .glo "Journal", .glo "open_journal", .glo "row_ends", .glo "journal_cuts", .glo "_law_box", .glo "_law_take", .glo "_law_pick", .glo "_law_number", .glo "_law_form", .glo "_law_page", .glo "_law_lens", .glo "_law_whole_rows", .glo "_law_row", .glo "_law_behind", .glo "_law_is_right", .glo "_law_cut_right", .glo "law", .int "MOST_OCTET" 256, .int "NOTHING" 0, .int "NUMBER" 1, .int "BELOW" 2]
def fa2 : List He.Fa := [.int "TEXT" 3, .int "ROW" 4, .int "NUMBER_OCTETS" 200, .int "MOST_PARTS" 4095, .int "MOST_DEPTH" 40, .int "END" (2 ^ 1600), .str "SIGNS" "abcdefghijklmnopqrstuvwxyz0123456789-_ ", .str "HEAD" "page", .free "isinstance", .free "int", .free "bool", .free "list", .free "tuple", .free "str", .free "len", .free "all", .free "range", .free "enumerate", .free "repr", .free "abs", .free "super", .cls "Reading", .mkr "Reading", .noat "Reading" "octets"]
def fa3 : List He.Fa := [.noat "Reading" "at", .noat "Reading" "heals", .noat "Reading" "extra", .meth "Reading" "take", .meth "Reading" "take_figures", .meth "Reading" "take_number", .meth "Reading" "take_parts", .meth "Reading" "take_text", .meth "Reading" "take_value", .meth "Reading" "take_row", .cls "Journal", .mkr "Journal", .noat "Journal" "pages", .noat "Journal" "page", .noat "Journal" "term", .noat "Journal" "told", .noat "Journal" "kept", .meth "Journal" "written", .meth "Journal" "lay", .meth "Journal" "keep", .meth "Journal" "loose", .meth "Journal" "begin", .meth "Journal" "cut", .keep "Broken", .noat "Broken" "at", .exm "Broken" "Broken" true]
def fa : List He.Fa := fa0 ++ (fa1 ++ (fa2 ++ fa3))
def lo0 : List Str := ["OutError", "BadOctets", "BadRow", "Refused", "Broken", "is_integer", "is_number", "is_below", "is_sequence", "is_text", "need_octets", "is_sign", "is_part", "as_value", "need_row", "figures_of", "number_form", "written", "write_row", "Reading", "begun", "read_row", "read_rows", "page_octets", "is_head", "page_told", "plain_journal"]
def lo1 : List Str := ["Journal", "open_journal", "row_ends", "journal_cuts", "_law_box", "_law_take", "_law_pick", "_law_number", "_law_form", "_law_page", "_law_lens", "_law_whole_rows", "_law_row", "_law_behind", "_law_is_right", "_law_cut_right", "MOST_OCTET", "NOTHING", "NUMBER", "BELOW", "TEXT", "ROW", "NUMBER_OCTETS", "MOST_PARTS", "MOST_DEPTH", "END", "SIGNS", "HEAD"]
end K53

set_option Elab.async false
set_option linter.all false
set_option maxRecDepth 100000
set_option maxHeartbeats 4000000
/-! Broken: its __init__ (super().__init__(text); self.at = at), its making, raise, except .. as, fault.at -/
namespace K53
open PySem PySem.W PySem.Calls PyProof.Rows PySem.HandSPX
/-- __init__'s function object: closed over the cell cc -/
abbrev brFn (dV kV doc pm : Value) (an : Option Addr) (cdv ct : Value) (cc : Addr) : FuncData :=
  ksFn "__init__" "Broken.__init__" (L2.defArgs s_Broken_init) (L2.defBody s_Broken_init) (L2.defScope s_Broken_init) dV kV doc pm an cdv ct cc
/-- what the written part says of Broken, at C, and of its __init__, at fI (code object at cda, cell at cc) -/
structure BrTxt (K : Frag) (mg : Str → Option Value) (C fI cc cda : Addr) : Prop where
  gC : mg "Broken" = some (.ref C)
  gS : mg "super" = none
  cls : ∃ nm q N bs bm sn sub ab col dd k0 k1 k2 k3 k5, K.lookup C = some (excClassObj nm q C N bs bm true sn sub ab col dd k0 k1 k2 k3 k5 "ValueError.__new__") ∧ refsVE bm = true
  sa : findIn K (.ref C) "__setattr__" = some (some (.builtin "object.__setattr__"))
  ga : findIn K (.ref C) "__getattribute__" = some (some (.builtin "BaseException.__getattribute__"))
  gg : findIn K (.ref C) "__getattr__" = some none
  noN : findIn K (.ref C) "at" = some none
  iC : findIn K (.ref C) "__init__" = some (some (.ref fI))
  tC : typeIn K (.ref fI) = some (.type "function")
  kC : keepIn K (.ref C) = true
  exC : subIn K (.ref C) (.type "BaseException") = some true
  veC : subIn K (.ref C) (.type "ValueError") = some true
  tyC : typeIn K (.ref C) = some (.type "type")
  hdC : hasDictIn K C = true
  te : exmOne K (.ref C) (.ref C) = some true
  sub : mroIn K C (.ref C) = some true
  sup : ks_superIn K C C "__init__" = some (some (.builtin "ValueError.__init__"))
  any : nsIn K cStatics "thirdparty.any" = some none
  fn : ∃ (oc : Value) (od : Option Addr) (kV doc pm : Value) (an : Option Addr) (ct : Value) (osl : Array (Option Value)),
    K.lookup fI = some ⟨oc, od, .func (brFn .none kV doc pm an (.ref cda) ct cc), osl⟩ ∧ codeIn K (.ref cda) "Broken.__init__" = true
  code : ∃ ccl cdd vs ccs tf, K.lookup cda = some ⟨ccl, cdd, .fields vs, ccs⟩ ∧ vs[2]? = some (.str "/claim/cut.py" tf)
  cell : ∃ cl cld csl, K.lookup cc = some ⟨cl, cld, .cell (some (.ref C)), csl⟩
/-- what __init__ leaves of a fresh exception at x -/
structure BrEnd (h h' : Heap) (x C dx t1 : Addr) (v : Value) : Prop where
  keep : ∀ b o, b ≠ x → h.get? b = some o → h'.get? b = some o
  obj : h'.get? x = some { cls := .ref C, dict := some dx, data := .fields #[.ref t1, .none, .none, .none, .bool false, .none] }
  dbig : h.objs.size ≤ dx
  dne : dx ≠ x
  ns : h'.Ns1 dx (fun y => if y = "at" then some v else none)
section
variable {prog : Program} {w : World} {A : Around} {E : Value → Shared → Prop} {R : Result → Shared → Prop} {s : Shared} {K : Frag} {mg mb : Str → Option Value} {C fI cc cda : Addr}
/-- the wrapper ValueError.__init__ of x, called with some arguments -/
theorem br_wrapped (T : BrTxt K mg C fI cc cda) {u x t0 : Addr} {rest : List Value} {Q : Value → Shared → Prop} (X : K.In s.heap) (hu : s.heap.get? u = some (kxs_mw "ValueError.__init__" x)) (hx : s.heap.get? x = some (excO C t0)) (hz : rest.length ≤ sizeLine)
    (hq : ∀ h' t1, (∀ b o, b ≠ x → s.heap.get? b = some o → h'.get? b = some o) → h'.get? x = some (excO C t1) → Q .none { s with heap := h' }) : wpAny (model prog w) A (call (.ref u) rest) Q E s := by
  obtain ⟨nm, q, N, bs, bm, sn, sub, ab, col, dd, k0, k1, k2, k3, k5, hC, _⟩ := T.cls
  obtain ⟨hh, g, d, tk, os⟩ := s
  refine wpAny_call (codeAny_of_tree ?_); show wpAny _ A.in1 (callAny (.ref u) ⟨rest, []⟩) _ _ _; simp only [callAny]; refine wpAny_bind (wpAny_load hu ?_)
  have e1 : (Value.type "method-wrapper" == Value.type "method" || Value.type "method-wrapper" == Value.type "builtin_function_or_method" || Value.type "method-wrapper" == Value.type "method-wrapper") = true := by decide
  simp only [kxs_mw, e1, if_true]
  refine KFB.if_so (by decide) (wpAny_bind (check_bound_init F.excBase_ValueError.toExcCallFacts (X _ _ hC) hx rfl ?_))
  refine wpAny_bind (wpAny_pure (wpAny_pure ⟨plainId_quiet F.excBase_ValueError.init.plain _, codeAny_builtin F.excBase_ValueError.initEntry ?_⟩))
  exact exc_init_tree (cls := .ref C) (t0 := t0) (dv := none) (c2 := .none) (c3 := .none) (b4 := .bool false) hx hz fun h' k e' _ => hq h' _ k e'
theorem br_init (T : BrTxt K mg C fI cc cda) {x t0 : Addr} {v : Value} (X : K.In s.heap) (hnx : K.lookup x = none) (hG : s.heap.Ns mainGlobals mg) (hB : s.heap.Ns builtinsNs mb) (hbb : mb "super" = bootBuiltins "super") (hlim : s.heap.NoLimit) (hx : s.heap.get? x = some (excO C t0)) (hroom : A.depth < recursionLimit)
    (hfile : ((prog.main.file : Str) == ("/claim/cut.py" : Str)) = true) (htop : (prog.main.scope.names.lookup ("super" : Str)).isSome = false)
    (hq : ∀ h' tk dx t1, BrEnd s.heap h' x C dx t1 v → R (.ok (.ret .none)) { s with heap := h', toks := tk }) : codeAny (model prog w) A (.call (.ref fI) ⟨[.ref x, v], []⟩) R s := by
  obtain ⟨oc, od, kV, doc, pm, an, ct, osl, ho, hcd⟩ := T.fn
  obtain ⟨nm, q, N, bs, bm, sn, sub, ab, col, dd, k0, k1, k2, k3, k5, hC, hbm⟩ := T.cls
  obtain ⟨ccl, cdd, vs, ccs, tf, hco, hvs⟩ := T.code
  obtain ⟨cl, cld, csl, hce⟩ := T.cell
  have hcl : clsIn K C = some { name := nm, bases := bs, mro := .ref C :: bm, ns := N, qualname := q, hasDict := true, slotNames := sn, subclasses := sub, abstract := ab, collection := col, hasDel := false } := by unfold clsIn; rw [hC] <;> rfl
  refine ks_codeAny_call_defAt (fd := brFn .none kV doc pm an (.ref cda) ct cc) (body := L2.defBody s_Broken_init) (binds := [("self", .ref x), ("at", v)]) hroom (X _ _ ho) rfl hlim (codeRec_of X hcd) rfl (BindsTo.of_eq (by first | rfl | with_unfolding_all rfl)) (show ∀ x ∈ (L2.defScope s_Broken_init).names, x.2 ≠ .cell by decide +kernel) (locs rfl) (fun h₁ hn k => ?_) rfl rfl rfl
  have X₁ : K.In h₁ := X.keeps k
  have hx₁ := k _ _ hx
  have hxn : x < s.heap.objs.size := Heap.lt_size hx
  have hns : h₁.Ns s.heap.objs.size (fun y => ([("self", .ref x), ("at", v)] : List (Str × Value)).reverse.lookup y) := hn
  show PySem.wpAt _ _ _ (execs _ _) _ _ _
  refine ks_wpAt_execs_cons (ks_wpAt_Expr_any (ks_wpAt_MethodCall ?_ (by rfl)))
  refine ks_wpAt_super_base (env := callEnv (brFn .none kV doc pm an (.ref cda) ct cc) s.heap.objs.size fI) rfl rfl (by decide) rfl (X₁ _ _ ho) rfl rfl rfl (X₁ _ _ hco) rfl hvs hfile htop ?_
  refine ks_loadName_global rfl rfl (loadGlobal_builtin (env := callEnv (brFn .none kV doc pm an (.ref cda) ct cc) s.heap.objs.size fI) (hG.keeps k) T.gS (hB.keeps k) (hbb.trans (by first | boot_by_name | rfl | kernel_rfl)) ⟨rfl, ?_⟩)
  refine wpAny_loadName_free rfl rfl rfl ⟨_, X₁ _ _ hce, rfl⟩ (wpAny_loadName_local rfl rfl hns rfl ?_)
  have hCo : ∃ oD, h₁.get? C = some oD ∧ oD.data = .cls { name := nm, bases := bs, mro := .ref C :: bm, ns := N, qualname := q, hasDict := true, slotNames := sn, subclasses := sub, abstract := ab, collection := col, hasDel := false } := ⟨_, X₁ _ _ hC, rfl⟩
  obtain ⟨oD, hD1, hD2⟩ := hCo
  refine ks_wpAny_isType_cls hD1 hD2 ⟨rfl, ?_⟩
  refine ks_wpAny_call_super hD1 hD2 hx₁ rfl (fun c e => nomatch e) (looks_mroIn X₁ T.sub) (fun h₂ e2 k2 => ?_)
  have X₂ : K.In h₂ := X₁.keeps k2
  have hx₂ := k2 _ _ hx₁
  have I₂ : InstAt h₂ x (excO C t0) C none := ⟨hx₂, rfl, rfl, trivial⟩
  have hI : Looks (model prog w) h₂ (isInstance (.ref x) (.type "ValueError")) true := I₂.type.andThen (looks_subIn X₂ T.veC)
  have hsup := T.sup
  unfold ks_superIn at hsup
  rw [hcl] at hsup
  refine kxs_getMethod kxs_ValueError e2 (looks_opaque X₂ T.any) (l₀ := .ref C :: bm) (fun A Q E s k q => wpAny_bind ((looks_clsIn X₂ hcl) A _ E s k (wpAny_pure q))) rfl X₂ hsup hI (ks_ne X₂ I₂ hcl) (by decide) ?_
  refine kxs_callWith (i := "ValueError.__init__") (x := x) (by rfl) (evalArgs_plain ?_)
  have k3 : ∀ b o, h₂.get? b = some o → (h₂.push (kxs_mw "ValueError.__init__" x)).get? b = some o := fun b o e => Heap.get?_push_of_some _ e
  have hw : (h₂.push (kxs_mw "ValueError.__init__" x)).get? h₂.objs.size = some (kxs_mw "ValueError.__init__" x) := Heap.get?_push_size _ rfl
  refine Calls.spliced_cons ?_
  refine Calls.Constant_str (k := 0) (pos := default) ?_
  refine Calls.spliced_nil ⟨hw, ?_⟩
  refine br_wrapped T (X₂.keeps k3) hw (k3 _ _ hx₂) (by show 1 ≤ sizeLine; rw [sizeLine_eq]; decide) fun h₃ t1 k4 hx₃ => ?_
  -- self.at = at
  have k5 : ∀ b o, b ≠ x → s.heap.get? b = some o → h₃.get? b = some o := fun b o hb e => k4 b o hb (k3 _ _ (k2 _ _ (k _ _ e)))
  have hfx : s.heap.objs.size ≠ x := Nat.ne_of_gt hxn
  have X₃ : K.In h₃ := fun a o e => k5 a o (fun z => by rw [z, hnx] at e; cases e) (X _ _ e)
  have hns₃ : h₃.Ns s.heap.objs.size (fun y => ([("self", .ref x), ("at", v)] : List (Str × Value)).reverse.lookup y) := by
    obtain ⟨oL, es, ep, hL, r⟩ := hns
    exact ⟨oL, es, ep, k4 _ _ hfx (k3 _ _ (k2 _ _ hL)), r⟩
  show PySem.wpAt _ _ _ (execs _ _) _ _ _
  refine ks_wpAt_execs_cons (ks_wpAt_Assign_Attr (wpAt_of_wpAny (wpAny_Name (wpAny_loadName_local rfl rfl hns₃ rfl ?_) (by decide))))
  refine wpAny_Name (wpAny_loadName_local rfl rfl hns₃ rfl ?_) (by decide)
  refine set_plain X₃ (ox := excO C t1) (od := none) ⟨hx₃, rfl, rfl, trivial⟩ T.sa ?_
  refine exc_osa X₃ hx₃ hcl (show refsVE (.ref C :: bm) = true from hbm) rfl T.noN (fun h₄ tk₄ dx k₆ dn dne hx₄ hn₄ => ?_)
  refine wpAt_of_wpAny (wpAny_execs_nil (hq h₄ tk₄ dx t1 ⟨fun b o hb e => k₆ b o hb (k5 b o hb e), hx₄, Nat.le_of_lt (Nat.lt_of_lt_of_le hns₃.lt dn), dne, hn₄⟩))
/-- a made Broken: e new, its own dict d new -/
structure BrMade (h h' : Heap) (e C d : Addr) (v : Value) : Prop where
  keep : ∀ b o, h.get? b = some o → h'.get? b = some o
  new : h.objs.size ≤ e
  obj : ∃ oe vs, h'.get? e = some oe ∧ oe.cls = .ref C ∧ oe.dict = some d ∧ oe.data = .fields vs ∧ vs[1]? = some .none
  dbig : h.objs.size ≤ d
  dne : d ≠ e
  ns : h'.Ns1 d (fun y => if y = "at" then some v else none)
theorem br_made (T : BrTxt K mg C fI cc cda) {v : Value} (X : K.In s.heap) (hG : s.heap.Ns mainGlobals mg) (hB : s.heap.Ns builtinsNs mb) (hbb : mb "super" = bootBuiltins "super") (hlim : s.heap.NoLimit) (hroom : A.depth + 1 < recursionLimit)
    (hfile : ((prog.main.file : Str) == ("/claim/cut.py" : Str)) = true) (htop : (prog.main.scope.names.lookup ("super" : Str)).isSome = false)
    (hq : ∀ h' tk e d, BrMade s.heap h' e C d v → R (.ok (.ret (.ref e))) { s with heap := h', toks := tk }) : codeAny (model prog w) A (.call (.ref C) ⟨[v], []⟩) R s := by
  obtain ⟨nm, q, N, bs, bm, sn, sub, ab, col, dd, k0, k1, k2, k3, k5, hC, hbm⟩ := T.cls
  obtain ⟨hp, g, dr, tk, os⟩ := s
  have k : ∀ b o, hp.get? b = some o → ((hp.push (kdv_tup [v])).push (excO C hp.objs.size)).get? b = some o := fun b o e => Heap.get?_push_of_some _ (Heap.get?_push_of_some _ e)
  have hget : ((hp.push (kdv_tup [v])).push (excO C hp.objs.size)).get? (hp.objs.size + 1) = some (excO C hp.objs.size) := by heap_get
  have hnx : K.lookup (hp.objs.size + 1) = none := by
    cases e : K.lookup (hp.objs.size + 1) with
    | none => rfl
    | some o =>
      have z : hp.get? (hp.objs.size + 1) = some o := X _ _ e
      exact absurd (Nat.lt_of_succ_lt (Heap.lt_size z)) (Nat.lt_irrefl _)
  refine call_own F.excBase_ValueError (fun X => refsVE_contains X bm hbm) (X _ _ hC) (looks_findIn X T.iC) (fun self => bind_fn X self T.tC) (by show 1 ≤ sizeLine; rw [sizeLine_eq]; decide) ?_
  refine br_init (s := ⟨(hp.push (kdv_tup [v])).push (excO C hp.objs.size), g, dr, tk, os⟩) T (X.keeps k) hnx (hG.keeps k) (hB.keeps k) hbb (hlim.keeps k) hget (by show A.depth + 1 < recursionLimit; exact hroom) hfile htop fun h' tk' dx t1 ⟨k', hx, dn, dne, hns⟩ => ?_
  have old : ∀ b o, hp.get? b = some o → h'.get? b = some o := fun b o e => k' b o (Nat.ne_of_lt (Nat.lt_succ_of_lt (Heap.lt_size e))) (k b o e)
  have z : hp.objs.size + 1 + 1 ≤ dx := by
    first
      | (simpa only [Heap.size_push] using dn)
      | exact dn
  exact ⟨rfl, hq h' tk' (hp.objs.size + 1) dx ⟨old, Nat.le_succ _, ⟨_, _, hx, rfl, rfl, rfl, rfl⟩, Nat.le_trans (Nat.le_trans (Nat.le_succ _) (Nat.le_succ _)) z, dne, hns⟩⟩
end
end K53
namespace K53
open PySem PySem.Spec PyProof.Rows L2
theorem relO_at {v : V} {v' : Value} (r : RelV v v') (f : Str) : RelO (List.lookup f [(("at" : Str), v)]) (if f = "at" then some v' else none) := by
  by_cases hw : f = "at"
  · subst hw
    rw [if_pos rfl]
    have q : List.lookup ("at" : Str) [(("at" : Str), v)] = some v := by simp [List.lookup]
    rw [q]
    exact r
  · rw [if_neg hw]
    have qw : (f == ("at" : Str)) = false := by simpa using hw
    have q2 : List.lookup f [(("at" : Str), v)] = none := by simp [List.lookup, qw]
    rw [q2]
    trivial
/-- what of the program __init__ asks -/
structure BrProg (P : Program) : Prop where
  file : ((P.main.file : Str) == ("/claim/cut.py" : Str)) = true
  top : (P.main.scope.names.lookup ("super" : Str)).isSome = false
section
variable {X : Cx} {C fI cc cda : Addr}
/-- Broken(e) -/
def tMkBr (C : Addr) (ta : TA) : L2.St → Hp → XK → Prop := fun σ H Q => ta σ H fun vs H1 => ∃ v, vs = [v] ∧ ∀ d, H1 d = none → Q (.ref C) (some d) (upd H1 d (.xd [(("at" : Str), v)]))
theorem pmk_br {a : Expr} {ta : TA} {p pos : Pos} {k : Nat} (T : BrTxt X.K X.mg C fI cc cda) (PR : BrProg X.prog) (hr : Room k X.A) (ha : PA X [a] ta) (hg : Gl X "Broken" := by rfl)
    (he : starEach (a :: []) X.env = (false, eval a X.env) :: starEach [] X.env := by rfl) (hpl : (backTo pos (starEach [] X.env)).any (·.1) = false := by rfl) :
    PMk X (.Call (.Name "Broken" p) [a] [] pos) (tMkBr C ta) := by
  intro pins s σ H Q I h
  refine wpAny_Call_Name_kw (ld_glob I hg T.gC ?_)
  refine PySem.W.callWith_K (h₀ := X.base) I.ok.mod.kin T.kC (thn (ha.run pos pins s σ H _ I h) fun us s1 hh => ?_) he hpl
  obtain ⟨vs, H1, I1, r1, v, ev, q1⟩ := hh
  subst ev
  refine ⟨I1.kIn, ?_⟩
  cases r1 with
  | cons rv rn =>
    rename_i v' us'
    cases rn
    show wpAny _ _ (call (.ref C) [v']) _ _ _
    have hlim := I1.nolimit
    obtain ⟨mb, hB, hbb⟩ := I1.mod.blt
    have hB1 := hB.keeps I1.bk
    have hG1 := I1.mod.glob.keeps I1.bk
    obtain ⟨hp, g, dr, tk, os⟩ := s1
    refine wpAny_call (br_made T I1.kIn hG1 hB1 (hbb "super" (by decide)) hlim (by have := hr.dp; omega) PR.file PR.top fun h' tk' e d M => ?_)
    show MkP X pins σ Q (.ref e) ⟨h', g, dr, tk', os⟩
    obtain ⟨oe, fv, hoe, hc, hd, hdat, h1⟩ := M.obj
    have hns := M.ns
    obtain ⟨G', g1, g2⟩ := restrict h' fun b => decide (b ≠ e)
    have gk : ∀ b, b ≠ e → G'.get? b = h'.get? b := fun b hb => g1 b (decide_eq_true hb)
    have ge : G'.get? e = none := g2 e (by simp)
    have old : ∀ b o, hp.get? b = some o → G'.get? b = some o := fun b o q => (gk b (Nat.ne_of_lt (Nat.lt_of_lt_of_le (Heap.lt_size q) M.new))).trans (M.keep b o q)
    have ob : ObjOk X.prog X.w (upd H1 d (.xd [(("at" : Str), v)])) G' d (.xd [(("at" : Str), v)]) :=
      ⟨_, hns.at (fun o q => (gk d M.dne).trans q), fun f => relO_at rv f⟩
    have J : Inv X pins σ (upd H1 d (.xd [(("at" : Str), v)])) ⟨G', g, dr, tk', os⟩ := I1.laid (t' := tk') old M.dbig ob
    refine ⟨e, oe, fv, ⟨G', g, dr, tk', os⟩, _, .ref C, some d, rfl, J, fun b o q => ?_, ge, hoe, ⟨hc, hd⟩, hdat, h1, ?_, rfl, I1.bare, raises_own T.exC T.tyC, q1 d (I1.hok.fresh M.dbig)⟩
    · by_cases hb : b = e
      · have q' : G'.get? b = some o := q
        rw [hb, ge] at q'; cases q'
      · exact (gk b hb).symm.trans q
    · rw [upd_ne (Ne.symm M.dne)]
      exact I1.hok.fresh M.new
/-- raise Broken(e) -/
def tRaiseBr (C : Addr) (W : WX) (ta : TA) : TS := fun _ σ H => tMkBr C ta σ H fun cls d H' => W cls d σ H'
theorem ps_raiseBr {a : Expr} {ta : TA} {W : WX} {p pos pos2 : Pos} {k : Nat} (hc : X.calm = true) (T : BrTxt X.K X.mg C fI cc cda) (PR : BrProg X.prog) (hr : Room k X.A) (tk : Takes X W) (ha : PA X [a] ta) (hg : Gl X "Broken" := by rfl)
    (he : starEach (a :: []) X.env = (false, eval a X.env) :: starEach [] X.env := by rfl) (hpl : (backTo pos (starEach [] X.env)).any (·.1) = false := by rfl) :
    PS X (.Raise (some (.Call (.Name "Broken" p) [a] [] pos)) none pos2) (tRaiseBr C W ta) := ps_raise hc tk (pmk_br T PR hr ha hg he hpl)
/-- fault.at, fault the exception that the suite holds (at a; its class cls, its dict d) -/
def tByBr (C : Addr) (a : Addr) (cls : Value) (d : Option Addr) (te : TE) : TE := fun σ H Q => te σ H fun x H1 => x = .ref a ∧ cls = .ref C ∧ ∃ (dd : Addr) (v : V), d = some dd ∧ H1 dd = some (.xd [(("at" : Str), v)]) ∧ Q v H1
theorem pe_byBr {a : Addr} {oe : Obj} {cls : Value} {d : Option Addr} {pn : List (Addr × Obj)} {e : Expr} {te : TE} {pos : Pos} (T : BrTxt X.K X.mg C fI cc cda) (hz : Zc cls d oe) (hf : ∃ vs, oe.data = .fields vs) (he : PE (X.suite a ((a, oe) :: pn)) e te)
    (hb : attributeBase e "at" X.env (eval e X.env) = eval e X.env := by rfl) :
    PE (X.suite a ((a, oe) :: pn)) (.Attribute e "at" pos) (tByBr C a cls d te) := by
  refine ⟨fun pins s σ H Q I h => ?_⟩
  refine attr_of hb (thn (he.run pins s σ H _ I h) fun u s1 hh => ?_)
  obtain ⟨x, H1, I1, rx, ex, ec, dd, v, ed, ea, q⟩ := hh
  subst ex
  obtain rfl : u = Value.ref a := rx
  subst ec
  subst ed
  obtain ⟨ha, _⟩ := I1.pin (a, oe) (List.mem_append_left _ List.mem_cons_self)
  obtain ⟨vs, hd⟩ := hf
  have hx : ObjOk X.prog X.w H1 s1.heap dd (.xd [(("at" : Str), v)]) := I1.hok dd _ ea
  obtain ⟨mA, hns, hr⟩ := hx
  obtain ⟨od, ho, hl⟩ := lookIn_ns hns
  have l : List.lookup ("at" : Str) [(("at" : Str), v)] = some v := by simp [List.lookup]
  obtain ⟨u, hu, ru⟩ := RelO.some_of (v := v) (o := mA "at") (by rw [← l]; exact hr "at")
  have J : PySem.W.InstAt s1.heap a oe C (some od) := ⟨ha, hz.1, by unfold PySem.W.notCls; rw [hd] <;> rfl, by rw [hz.2]; exact ho⟩
  exact HandSPX.exc_get I1.kIn J T.ga T.gg T.exC (PySem.W.findObj_own T.hdC T.noN rfl (by rw [hl, hu])) (handed_of ru) ⟨v, H1, I1.tok _, ru, q⟩
end
end K53

set_option Elab.async false
set_option linter.all false
set_option maxRecDepth 100000
set_option maxHeartbeats 4000000
/-! the bundle of what the top has written, and its parts by name (printed by gen.py) -/
namespace K53
open PySem PySem.Spec PyProof.Rows L2
structure Tx (P : Program) (K : PySem.W.Frag) (mg : Str → Option Value) : Prop where
  X : ∃ h : Heap, K.In h ∧ h.Ns mainGlobals mg
  c : He.SaysD fa fn K
  br : ∃ fI cc cda, BrTxt K mg (He.ga K "Broken") fI cc cda
  pr : BrProg P
section
variable {P : Program} {K : PySem.W.Frag} {mg : Str → Option Value}
theorem Tx.glo (T : Tx P K mg) (i : Nat) {x : Str} (h : fa[i]? = some (.glo x) := by rfl) : mg x = some (.ref (He.ga K x)) := let ⟨_, X, G⟩ := T.X; He.glo_ok X G (T.c.fact i h)
theorem Tx.fre (T : Tx P K mg) (i : Nat) {x : Str} (h : fa[i]? = some (.free x) := by rfl) : mg x = none := let ⟨_, X, G⟩ := T.X; He.free_ok X G (T.c.fact i h)
theorem Tx.int (T : Tx P K mg) (i : Nat) {x : Str} {n : Int} (h : fa[i]? = some (.int x n) := by rfl) : ∃ t, mg x = some (.int n t) := let ⟨_, X, G⟩ := T.X; He.int_ok X G (T.c.fact i h)
theorem Tx.str (T : Tx P K mg) (i : Nat) {x z : Str} (h : fa[i]? = some (.str x z) := by rfl) : ∃ t, mg x = some (.str z t) := let ⟨_, X, G⟩ := T.X; He.str_ok X G (T.c.fact i h)
theorem Tx.cls (T : Tx P K mg) (i : Nat) {x : Str} (h : fa[i]? = some (.cls x) := by rfl) : Cls K (He.ga K x) := He.cls_ok (T.c.fact i h)
theorem Tx.noat (T : Tx P K mg) (i : Nat) {x f : Str} (h : fa[i]? = some (.noat x f) := by rfl) : NoAttr K (He.ga K x) f := He.noat_ok (T.c.fact i h)
theorem Tx.meth (T : Tx P K mg) (i : Nat) {x m : Str} (h : fa[i]? = some (.meth x m) := by rfl) : Meth K (He.ga K x) m (He.ma K (He.ga K x) m) := He.meth_ok (T.c.fact i h)
theorem Tx.mkr (T : Tx P K mg) (i : Nat) {x : Str} (h : fa[i]? = some (.mkr x) := by rfl) : Mk K (He.ga K x) (He.ma K (He.ga K x) "__init__") := He.mkr_ok (T.c.fact i h)
theorem Tx.kp (T : Tx P K mg) (i : Nat) {d : He.DefD} (h : fn[i]? = some d := by rfl) : PySem.W.keepIn K (.ref (He.fAd K d.at_)) = true := let ⟨_, F⟩ := T.c.def_ i h; F.kp
theorem Tx.g_OutError (T : Tx P K mg) : mg "OutError" = some (.ref (He.ga K "OutError")) := T.glo 0
theorem Tx.g_BadOctets (T : Tx P K mg) : mg "BadOctets" = some (.ref (He.ga K "BadOctets")) := T.glo 1
theorem Tx.g_BadRow (T : Tx P K mg) : mg "BadRow" = some (.ref (He.ga K "BadRow")) := T.glo 2
theorem Tx.g_Refused (T : Tx P K mg) : mg "Refused" = some (.ref (He.ga K "Refused")) := T.glo 3
theorem Tx.g_Broken (T : Tx P K mg) : mg "Broken" = some (.ref (He.ga K "Broken")) := T.glo 4
theorem Tx.g_is_integer (T : Tx P K mg) : mg "is_integer" = some (.ref (He.ga K "is_integer")) := T.glo 5
theorem Tx.g_is_number (T : Tx P K mg) : mg "is_number" = some (.ref (He.ga K "is_number")) := T.glo 6
theorem Tx.g_is_below (T : Tx P K mg) : mg "is_below" = some (.ref (He.ga K "is_below")) := T.glo 7
theorem Tx.g_is_sequence (T : Tx P K mg) : mg "is_sequence" = some (.ref (He.ga K "is_sequence")) := T.glo 8
theorem Tx.g_is_text (T : Tx P K mg) : mg "is_text" = some (.ref (He.ga K "is_text")) := T.glo 9
theorem Tx.g_need_octets (T : Tx P K mg) : mg "need_octets" = some (.ref (He.ga K "need_octets")) := T.glo 10
theorem Tx.g_is_sign (T : Tx P K mg) : mg "is_sign" = some (.ref (He.ga K "is_sign")) := T.glo 11
theorem Tx.g_is_part (T : Tx P K mg) : mg "is_part" = some (.ref (He.ga K "is_part")) := T.glo 12
theorem Tx.g_as_value (T : Tx P K mg) : mg "as_value" = some (.ref (He.ga K "as_value")) := T.glo 13
theorem Tx.g_need_row (T : Tx P K mg) : mg "need_row" = some (.ref (He.ga K "need_row")) := T.glo 14
theorem Tx.g_figures_of (T : Tx P K mg) : mg "figures_of" = some (.ref (He.ga K "figures_of")) := T.glo 15
theorem Tx.g_number_form (T : Tx P K mg) : mg "number_form" = some (.ref (He.ga K "number_form")) := T.glo 16
theorem Tx.g_written (T : Tx P K mg) : mg "written" = some (.ref (He.ga K "written")) := T.glo 17
theorem Tx.g_write_row (T : Tx P K mg) : mg "write_row" = some (.ref (He.ga K "write_row")) := T.glo 18
theorem Tx.g_Reading (T : Tx P K mg) : mg "Reading" = some (.ref (He.ga K "Reading")) := T.glo 19
theorem Tx.g_begun (T : Tx P K mg) : mg "begun" = some (.ref (He.ga K "begun")) := T.glo 20
theorem Tx.g_read_row (T : Tx P K mg) : mg "read_row" = some (.ref (He.ga K "read_row")) := T.glo 21
theorem Tx.g_read_rows (T : Tx P K mg) : mg "read_rows" = some (.ref (He.ga K "read_rows")) := T.glo 22
theorem Tx.g_page_octets (T : Tx P K mg) : mg "page_octets" = some (.ref (He.ga K "page_octets")) := T.glo 23
theorem Tx.g_is_head (T : Tx P K mg) : mg "is_head" = some (.ref (He.ga K "is_head")) := T.glo 24
theorem Tx.g_page_told (T : Tx P K mg) : mg "page_told" = some (.ref (He.ga K "page_told")) := T.glo 25
theorem Tx.g_plain_journal (T : Tx P K mg) : mg "plain_journal" = some (.ref (He.ga K "plain_journal")) := T.glo 26
theorem Tx.g_Journal (T : Tx P K mg) : mg "Journal" = some (.ref (He.ga K "Journal")) := T.glo 27
theorem Tx.g_open_journal (T : Tx P K mg) : mg "open_journal" = some (.ref (He.ga K "open_journal")) := T.glo 28
theorem Tx.g_row_ends (T : Tx P K mg) : mg "row_ends" = some (.ref (He.ga K "row_ends")) := T.glo 29
theorem Tx.g_journal_cuts (T : Tx P K mg) : mg "journal_cuts" = some (.ref (He.ga K "journal_cuts")) := T.glo 30
theorem Tx.g__law_box (T : Tx P K mg) : mg "_law_box" = some (.ref (He.ga K "_law_box")) := T.glo 31
theorem Tx.g__law_take (T : Tx P K mg) : mg "_law_take" = some (.ref (He.ga K "_law_take")) := T.glo 32
theorem Tx.g__law_pick (T : Tx P K mg) : mg "_law_pick" = some (.ref (He.ga K "_law_pick")) := T.glo 33
theorem Tx.g__law_number (T : Tx P K mg) : mg "_law_number" = some (.ref (He.ga K "_law_number")) := T.glo 34
theorem Tx.g__law_form (T : Tx P K mg) : mg "_law_form" = some (.ref (He.ga K "_law_form")) := T.glo 35
theorem Tx.g__law_page (T : Tx P K mg) : mg "_law_page" = some (.ref (He.ga K "_law_page")) := T.glo 36
theorem Tx.g__law_lens (T : Tx P K mg) : mg "_law_lens" = some (.ref (He.ga K "_law_lens")) := T.glo 37
theorem Tx.g__law_whole_rows (T : Tx P K mg) : mg "_law_whole_rows" = some (.ref (He.ga K "_law_whole_rows")) := T.glo 38
theorem Tx.g__law_row (T : Tx P K mg) : mg "_law_row" = some (.ref (He.ga K "_law_row")) := T.glo 39
theorem Tx.g__law_behind (T : Tx P K mg) : mg "_law_behind" = some (.ref (He.ga K "_law_behind")) := T.glo 40
theorem Tx.g__law_is_right (T : Tx P K mg) : mg "_law_is_right" = some (.ref (He.ga K "_law_is_right")) := T.glo 41
theorem Tx.g__law_cut_right (T : Tx P K mg) : mg "_law_cut_right" = some (.ref (He.ga K "_law_cut_right")) := T.glo 42
theorem Tx.g_law (T : Tx P K mg) : mg "law" = some (.ref (He.ga K "law")) := T.glo 43
theorem Tx.i_MOST_OCTET (T : Tx P K mg) : ∃ t, mg "MOST_OCTET" = some (.int 256 t) := T.int 44
theorem Tx.i_NOTHING (T : Tx P K mg) : ∃ t, mg "NOTHING" = some (.int 0 t) := T.int 45
theorem Tx.i_NUMBER (T : Tx P K mg) : ∃ t, mg "NUMBER" = some (.int 1 t) := T.int 46
theorem Tx.i_BELOW (T : Tx P K mg) : ∃ t, mg "BELOW" = some (.int 2 t) := T.int 47
theorem Tx.i_TEXT (T : Tx P K mg) : ∃ t, mg "TEXT" = some (.int 3 t) := T.int 48
theorem Tx.i_ROW (T : Tx P K mg) : ∃ t, mg "ROW" = some (.int 4 t) := T.int 49
theorem Tx.i_NUMBER_OCTETS (T : Tx P K mg) : ∃ t, mg "NUMBER_OCTETS" = some (.int 200 t) := T.int 50
theorem Tx.i_MOST_PARTS (T : Tx P K mg) : ∃ t, mg "MOST_PARTS" = some (.int 4095 t) := T.int 51
theorem Tx.i_MOST_DEPTH (T : Tx P K mg) : ∃ t, mg "MOST_DEPTH" = some (.int 40 t) := T.int 52
theorem Tx.i_END (T : Tx P K mg) : ∃ t, mg "END" = some (.int (2 ^ 1600) t) := T.int 53
theorem Tx.s_SIGNS (T : Tx P K mg) : ∃ t, mg "SIGNS" = some (.str "abcdefghijklmnopqrstuvwxyz0123456789-_ " t) := T.str 54
theorem Tx.s_HEAD (T : Tx P K mg) : ∃ t, mg "HEAD" = some (.str "page" t) := T.str 55
theorem Tx.f_isinstance (T : Tx P K mg) : mg "isinstance" = none := T.fre 56
theorem Tx.f_int (T : Tx P K mg) : mg "int" = none := T.fre 57
theorem Tx.f_bool (T : Tx P K mg) : mg "bool" = none := T.fre 58
theorem Tx.f_list (T : Tx P K mg) : mg "list" = none := T.fre 59
theorem Tx.f_tuple (T : Tx P K mg) : mg "tuple" = none := T.fre 60
theorem Tx.f_str (T : Tx P K mg) : mg "str" = none := T.fre 61
theorem Tx.f_len (T : Tx P K mg) : mg "len" = none := T.fre 62
theorem Tx.f_all (T : Tx P K mg) : mg "all" = none := T.fre 63
theorem Tx.f_range (T : Tx P K mg) : mg "range" = none := T.fre 64
theorem Tx.f_enumerate (T : Tx P K mg) : mg "enumerate" = none := T.fre 65
theorem Tx.f_repr (T : Tx P K mg) : mg "repr" = none := T.fre 66
theorem Tx.f_abs (T : Tx P K mg) : mg "abs" = none := T.fre 67
theorem Tx.f_super (T : Tx P K mg) : mg "super" = none := T.fre 68
theorem Tx.c_Reading (T : Tx P K mg) : Cls K (He.ga K "Reading") := T.cls 69
theorem Tx.k_Reading (T : Tx P K mg) : Mk K (He.ga K "Reading") (He.ma K (He.ga K "Reading") "__init__") := T.mkr 70
theorem Tx.n_Reading_octets (T : Tx P K mg) : NoAttr K (He.ga K "Reading") "octets" := T.noat 71
theorem Tx.n_Reading_at (T : Tx P K mg) : NoAttr K (He.ga K "Reading") "at" := T.noat 72
theorem Tx.n_Reading_heals (T : Tx P K mg) : NoAttr K (He.ga K "Reading") "heals" := T.noat 73
theorem Tx.n_Reading_extra (T : Tx P K mg) : NoAttr K (He.ga K "Reading") "extra" := T.noat 74
theorem Tx.m_Reading_take (T : Tx P K mg) : Meth K (He.ga K "Reading") "take" (He.ma K (He.ga K "Reading") "take") := T.meth 75
theorem Tx.m_Reading_take_figures (T : Tx P K mg) : Meth K (He.ga K "Reading") "take_figures" (He.ma K (He.ga K "Reading") "take_figures") := T.meth 76
theorem Tx.m_Reading_take_number (T : Tx P K mg) : Meth K (He.ga K "Reading") "take_number" (He.ma K (He.ga K "Reading") "take_number") := T.meth 77
theorem Tx.m_Reading_take_parts (T : Tx P K mg) : Meth K (He.ga K "Reading") "take_parts" (He.ma K (He.ga K "Reading") "take_parts") := T.meth 78
theorem Tx.m_Reading_take_text (T : Tx P K mg) : Meth K (He.ga K "Reading") "take_text" (He.ma K (He.ga K "Reading") "take_text") := T.meth 79
theorem Tx.m_Reading_take_value (T : Tx P K mg) : Meth K (He.ga K "Reading") "take_value" (He.ma K (He.ga K "Reading") "take_value") := T.meth 80
theorem Tx.m_Reading_take_row (T : Tx P K mg) : Meth K (He.ga K "Reading") "take_row" (He.ma K (He.ga K "Reading") "take_row") := T.meth 81
theorem Tx.c_Journal (T : Tx P K mg) : Cls K (He.ga K "Journal") := T.cls 82
theorem Tx.k_Journal (T : Tx P K mg) : Mk K (He.ga K "Journal") (He.ma K (He.ga K "Journal") "__init__") := T.mkr 83
theorem Tx.n_Journal_pages (T : Tx P K mg) : NoAttr K (He.ga K "Journal") "pages" := T.noat 84
theorem Tx.n_Journal_page (T : Tx P K mg) : NoAttr K (He.ga K "Journal") "page" := T.noat 85
theorem Tx.n_Journal_term (T : Tx P K mg) : NoAttr K (He.ga K "Journal") "term" := T.noat 86
theorem Tx.n_Journal_told (T : Tx P K mg) : NoAttr K (He.ga K "Journal") "told" := T.noat 87
theorem Tx.n_Journal_kept (T : Tx P K mg) : NoAttr K (He.ga K "Journal") "kept" := T.noat 88
theorem Tx.m_Journal_written (T : Tx P K mg) : Meth K (He.ga K "Journal") "written" (He.ma K (He.ga K "Journal") "written") := T.meth 89
theorem Tx.m_Journal_lay (T : Tx P K mg) : Meth K (He.ga K "Journal") "lay" (He.ma K (He.ga K "Journal") "lay") := T.meth 90
theorem Tx.m_Journal_keep (T : Tx P K mg) : Meth K (He.ga K "Journal") "keep" (He.ma K (He.ga K "Journal") "keep") := T.meth 91
theorem Tx.m_Journal_loose (T : Tx P K mg) : Meth K (He.ga K "Journal") "loose" (He.ma K (He.ga K "Journal") "loose") := T.meth 92
theorem Tx.m_Journal_begin (T : Tx P K mg) : Meth K (He.ga K "Journal") "begin" (He.ma K (He.ga K "Journal") "begin") := T.meth 93
theorem Tx.m_Journal_cut (T : Tx P K mg) : Meth K (He.ga K "Journal") "cut" (He.ma K (He.ga K "Journal") "cut") := T.meth 94
theorem Tx.n_Broken_at (T : Tx P K mg) : NoAttr K (He.ga K "Broken") "at" := T.noat 96
theorem Tx.d_is_integer (T : Tx P K mg) : ∃ fd, FunD K "is_integer" "is_integer" (defArgs s_is_integer) (defBody s_is_integer) (defScope s_is_integer) [] [] (He.ga K "is_integer") fd ∧ Binds K fd p_is_integer [] := by
  obtain ⟨fd, F⟩ := T.c.def_ 0 (d := dd_is_integer) rfl
  exact ⟨fd, F, FunD.bindsN (ps := p_is_integer) F fun _ _ _ _ _ _ us hl => match us, hl with | [_], _ => rfl⟩
theorem Tx.d_is_number (T : Tx P K mg) : ∃ fd, FunD K "is_number" "is_number" (defArgs s_is_number) (defBody s_is_number) (defScope s_is_number) [] [] (He.ga K "is_number") fd ∧ Binds K fd p_is_number [] := by
  obtain ⟨fd, F⟩ := T.c.def_ 1 (d := dd_is_number) rfl
  exact ⟨fd, F, FunD.bindsN (ps := p_is_number) F fun _ _ _ _ _ _ us hl => match us, hl with | [_], _ => rfl⟩
theorem Tx.d_is_below (T : Tx P K mg) : ∃ fd, FunD K "is_below" "is_below" (defArgs s_is_below) (defBody s_is_below) (defScope s_is_below) [] [] (He.ga K "is_below") fd ∧ Binds K fd p_is_below [] := by
  obtain ⟨fd, F⟩ := T.c.def_ 2 (d := dd_is_below) rfl
  exact ⟨fd, F, FunD.bindsN (ps := p_is_below) F fun _ _ _ _ _ _ us hl => match us, hl with | [_, _], _ => rfl⟩
theorem Tx.d_is_sequence (T : Tx P K mg) : ∃ fd, FunD K "is_sequence" "is_sequence" (defArgs s_is_sequence) (defBody s_is_sequence) (defScope s_is_sequence) [] [] (He.ga K "is_sequence") fd ∧ Binds K fd p_is_sequence [] := by
  obtain ⟨fd, F⟩ := T.c.def_ 3 (d := dd_is_sequence) rfl
  exact ⟨fd, F, FunD.bindsN (ps := p_is_sequence) F fun _ _ _ _ _ _ us hl => match us, hl with | [_], _ => rfl⟩
theorem Tx.d_is_text (T : Tx P K mg) : ∃ fd, FunD K "is_text" "is_text" (defArgs s_is_text) (defBody s_is_text) (defScope s_is_text) [] [] (He.ga K "is_text") fd ∧ Binds K fd p_is_text [] := by
  obtain ⟨fd, F⟩ := T.c.def_ 4 (d := dd_is_text) rfl
  exact ⟨fd, F, FunD.bindsN (ps := p_is_text) F fun _ _ _ _ _ _ us hl => match us, hl with | [_], _ => rfl⟩
theorem Tx.d_need_octets (T : Tx P K mg) : ∃ fd, FunD K "need_octets" "need_octets" (defArgs s_need_octets) (defBody s_need_octets) (defScope s_need_octets) [] [] (He.ga K "need_octets") fd ∧ Binds K fd p_need_octets [] := by
  obtain ⟨fd, F⟩ := T.c.def_ 5 (d := dd_need_octets) rfl
  exact ⟨fd, F, FunD.bindsN (ps := p_need_octets) F fun _ _ _ _ _ _ us hl => match us, hl with | [_], _ => rfl⟩
theorem Tx.d_is_sign (T : Tx P K mg) : ∃ fd, FunD K "is_sign" "is_sign" (defArgs s_is_sign) (defBody s_is_sign) (defScope s_is_sign) [] [] (He.ga K "is_sign") fd ∧ Binds K fd p_is_sign [] := by
  obtain ⟨fd, F⟩ := T.c.def_ 6 (d := dd_is_sign) rfl
  exact ⟨fd, F, FunD.bindsN (ps := p_is_sign) F fun _ _ _ _ _ _ us hl => match us, hl with | [_], _ => rfl⟩
theorem Tx.d_is_part (T : Tx P K mg) : ∃ fd, FunD K "is_part" "is_part" (defArgs s_is_part) (defBody s_is_part) (defScope s_is_part) [] [] (He.ga K "is_part") fd ∧ Binds K fd p_is_part [] := by
  obtain ⟨fd, F⟩ := T.c.def_ 7 (d := dd_is_part) rfl
  exact ⟨fd, F, FunD.bindsN (ps := p_is_part) F fun _ _ _ _ _ _ us hl => match us, hl with | [_, _], _ => rfl⟩
theorem Tx.d_as_value (T : Tx P K mg) : ∃ fd, FunD K "as_value" "as_value" (defArgs s_as_value) (defBody s_as_value) (defScope s_as_value) [] [] (He.ga K "as_value") fd ∧ Binds K fd p_as_value [] := by
  obtain ⟨fd, F⟩ := T.c.def_ 8 (d := dd_as_value) rfl
  exact ⟨fd, F, FunD.bindsN (ps := p_as_value) F fun _ _ _ _ _ _ us hl => match us, hl with | [_], _ => rfl⟩
theorem Tx.d_need_row (T : Tx P K mg) : ∃ fd, FunD K "need_row" "need_row" (defArgs s_need_row) (defBody s_need_row) (defScope s_need_row) [] [] (He.ga K "need_row") fd ∧ Binds K fd p_need_row [] := by
  obtain ⟨fd, F⟩ := T.c.def_ 9 (d := dd_need_row) rfl
  exact ⟨fd, F, FunD.bindsN (ps := p_need_row) F fun _ _ _ _ _ _ us hl => match us, hl with | [_], _ => rfl⟩
theorem Tx.d_figures_of (T : Tx P K mg) : ∃ fd, FunD K "figures_of" "figures_of" (defArgs s_figures_of) (defBody s_figures_of) (defScope s_figures_of) [] [] (He.ga K "figures_of") fd ∧ Binds K fd p_figures_of [] := by
  obtain ⟨fd, F⟩ := T.c.def_ 10 (d := dd_figures_of) rfl
  exact ⟨fd, F, FunD.bindsN (ps := p_figures_of) F fun _ _ _ _ _ _ us hl => match us, hl with | [_], _ => rfl⟩
theorem Tx.d_number_form (T : Tx P K mg) : ∃ fd, FunD K "number_form" "number_form" (defArgs s_number_form) (defBody s_number_form) (defScope s_number_form) [] [] (He.ga K "number_form") fd ∧ Binds K fd p_number_form [] := by
  obtain ⟨fd, F⟩ := T.c.def_ 11 (d := dd_number_form) rfl
  exact ⟨fd, F, FunD.bindsN (ps := p_number_form) F fun _ _ _ _ _ _ us hl => match us, hl with | [_], _ => rfl⟩
theorem Tx.d_written (T : Tx P K mg) : ∃ fd, FunD K "written" "written" (defArgs s_written) (defBody s_written) (defScope s_written) [] [] (He.ga K "written") fd ∧ Binds K fd p_written [] := by
  obtain ⟨fd, F⟩ := T.c.def_ 12 (d := dd_written) rfl
  exact ⟨fd, F, FunD.bindsN (ps := p_written) F fun _ _ _ _ _ _ us hl => match us, hl with | [_], _ => rfl⟩
theorem Tx.d_write_row (T : Tx P K mg) : ∃ fd, FunD K "write_row" "write_row" (defArgs s_write_row) (defBody s_write_row) (defScope s_write_row) [] [] (He.ga K "write_row") fd ∧ Binds K fd p_write_row [] := by
  obtain ⟨fd, F⟩ := T.c.def_ 13 (d := dd_write_row) rfl
  exact ⟨fd, F, FunD.bindsN (ps := p_write_row) F fun _ _ _ _ _ _ us hl => match us, hl with | [_], _ => rfl⟩
theorem Tx.d_Reading_init (T : Tx P K mg) : ∃ fd, FunD K "__init__" "Reading.__init__" (defArgs s_Reading_init) (defBody s_Reading_init) (defScope s_Reading_init) [] [] (He.ma K (He.ga K "Reading") "__init__") fd ∧ Binds K fd p_Reading_init [] := by
  obtain ⟨fd, F⟩ := T.c.def_ 14 (d := dd_Reading_init) rfl
  exact ⟨fd, F, FunD.bindsN (ps := p_Reading_init) F fun _ _ _ _ _ _ us hl => match us, hl with | [_, _, _, _], _ => rfl⟩
theorem Tx.d_Reading_take (T : Tx P K mg) : ∃ fd, FunD K "take" "Reading.take" (defArgs s_Reading_take) (defBody s_Reading_take) (defScope s_Reading_take) [] [] (He.ma K (He.ga K "Reading") "take") fd ∧ Binds K fd p_Reading_take [] := by
  obtain ⟨fd, F⟩ := T.c.def_ 15 (d := dd_Reading_take) rfl
  exact ⟨fd, F, FunD.bindsN (ps := p_Reading_take) F fun _ _ _ _ _ _ us hl => match us, hl with | [_, _, _], _ => rfl⟩
theorem Tx.d_Reading_take_figures (T : Tx P K mg) : ∃ fd, FunD K "take_figures" "Reading.take_figures" (defArgs s_Reading_take_figures) (defBody s_Reading_take_figures) (defScope s_Reading_take_figures) [] [] (He.ma K (He.ga K "Reading") "take_figures") fd ∧ Binds K fd p_Reading_take_figures [] := by
  obtain ⟨fd, F⟩ := T.c.def_ 16 (d := dd_Reading_take_figures) rfl
  exact ⟨fd, F, FunD.bindsN (ps := p_Reading_take_figures) F fun _ _ _ _ _ _ us hl => match us, hl with | [_, _, _], _ => rfl⟩
theorem Tx.d_Reading_take_number (T : Tx P K mg) : ∃ fd, FunD K "take_number" "Reading.take_number" (defArgs s_Reading_take_number) (defBody s_Reading_take_number) (defScope s_Reading_take_number) [] [] (He.ma K (He.ga K "Reading") "take_number") fd ∧ Binds K fd p_Reading_take_number [] := by
  obtain ⟨fd, F⟩ := T.c.def_ 17 (d := dd_Reading_take_number) rfl
  exact ⟨fd, F, FunD.bindsN (ps := p_Reading_take_number) F fun _ _ _ _ _ _ us hl => match us, hl with | [_], _ => rfl⟩
theorem Tx.d_Reading_take_parts (T : Tx P K mg) : ∃ fd, FunD K "take_parts" "Reading.take_parts" (defArgs s_Reading_take_parts) (defBody s_Reading_take_parts) (defScope s_Reading_take_parts) [] [] (He.ma K (He.ga K "Reading") "take_parts") fd ∧ Binds K fd p_Reading_take_parts [] := by
  obtain ⟨fd, F⟩ := T.c.def_ 18 (d := dd_Reading_take_parts) rfl
  exact ⟨fd, F, FunD.bindsN (ps := p_Reading_take_parts) F fun _ _ _ _ _ _ us hl => match us, hl with | [_, _], _ => rfl⟩
theorem Tx.d_Reading_take_text (T : Tx P K mg) : ∃ fd, FunD K "take_text" "Reading.take_text" (defArgs s_Reading_take_text) (defBody s_Reading_take_text) (defScope s_Reading_take_text) [] [] (He.ma K (He.ga K "Reading") "take_text") fd ∧ Binds K fd p_Reading_take_text [] := by
  obtain ⟨fd, F⟩ := T.c.def_ 19 (d := dd_Reading_take_text) rfl
  exact ⟨fd, F, FunD.bindsN (ps := p_Reading_take_text) F fun _ _ _ _ _ _ us hl => match us, hl with | [_], _ => rfl⟩
theorem Tx.d_Reading_take_value (T : Tx P K mg) : ∃ fd, FunD K "take_value" "Reading.take_value" (defArgs s_Reading_take_value) (defBody s_Reading_take_value) (defScope s_Reading_take_value) [] [] (He.ma K (He.ga K "Reading") "take_value") fd ∧ Binds K fd p_Reading_take_value [] := by
  obtain ⟨fd, F⟩ := T.c.def_ 20 (d := dd_Reading_take_value) rfl
  exact ⟨fd, F, FunD.bindsN (ps := p_Reading_take_value) F fun _ _ _ _ _ _ us hl => match us, hl with | [_, _], _ => rfl⟩
theorem Tx.d_Reading_take_row (T : Tx P K mg) : ∃ fd, FunD K "take_row" "Reading.take_row" (defArgs s_Reading_take_row) (defBody s_Reading_take_row) (defScope s_Reading_take_row) [] [] (He.ma K (He.ga K "Reading") "take_row") fd ∧ Binds K fd p_Reading_take_row [] := by
  obtain ⟨fd, F⟩ := T.c.def_ 21 (d := dd_Reading_take_row) rfl
  exact ⟨fd, F, FunD.bindsN (ps := p_Reading_take_row) F fun _ _ _ _ _ _ us hl => match us, hl with | [_], _ => rfl⟩
theorem Tx.d_begun (T : Tx P K mg) : ∃ fd, FunD K "begun" "begun" (defArgs s_begun) (defBody s_begun) (defScope s_begun) [] [] (He.ga K "begun") fd ∧ Binds K fd p_begun [] := by
  obtain ⟨fd, F⟩ := T.c.def_ 22 (d := dd_begun) rfl
  exact ⟨fd, F, FunD.bindsN (ps := p_begun) F fun _ _ _ _ _ _ us hl => match us, hl with | [_, _], _ => rfl⟩
theorem Tx.d_read_row (T : Tx P K mg) : ∃ fd, FunD K "read_row" "read_row" (defArgs s_read_row) (defBody s_read_row) (defScope s_read_row) [] [] (He.ga K "read_row") fd ∧ Binds K fd p_read_row [] := by
  obtain ⟨fd, F⟩ := T.c.def_ 23 (d := dd_read_row) rfl
  exact ⟨fd, F, FunD.bindsN (ps := p_read_row) F fun _ _ _ _ _ _ us hl => match us, hl with | [_, _], _ => rfl⟩
theorem Tx.d_read_rows (T : Tx P K mg) : ∃ fd, FunD K "read_rows" "read_rows" (defArgs s_read_rows) (defBody s_read_rows) (defScope s_read_rows) [] [] (He.ga K "read_rows") fd ∧ Binds K fd p_read_rows [] := by
  obtain ⟨fd, F⟩ := T.c.def_ 24 (d := dd_read_rows) rfl
  exact ⟨fd, F, FunD.bindsN (ps := p_read_rows) F fun _ _ _ _ _ _ us hl => match us, hl with | [_], _ => rfl⟩
theorem Tx.d_page_octets (T : Tx P K mg) : ∃ fd, FunD K "page_octets" "page_octets" (defArgs s_page_octets) (defBody s_page_octets) (defScope s_page_octets) [] [] (He.ga K "page_octets") fd ∧ Binds K fd p_page_octets [] := by
  obtain ⟨fd, F⟩ := T.c.def_ 25 (d := dd_page_octets) rfl
  exact ⟨fd, F, FunD.bindsN (ps := p_page_octets) F fun _ _ _ _ _ _ us hl => match us, hl with | [_, _], _ => rfl⟩
theorem Tx.d_is_head (T : Tx P K mg) : ∃ fd, FunD K "is_head" "is_head" (defArgs s_is_head) (defBody s_is_head) (defScope s_is_head) [] [] (He.ga K "is_head") fd ∧ Binds K fd p_is_head [] := by
  obtain ⟨fd, F⟩ := T.c.def_ 26 (d := dd_is_head) rfl
  exact ⟨fd, F, FunD.bindsN (ps := p_is_head) F fun _ _ _ _ _ _ us hl => match us, hl with | [_], _ => rfl⟩
theorem Tx.d_page_told (T : Tx P K mg) : ∃ fd, FunD K "page_told" "page_told" (defArgs s_page_told) (defBody s_page_told) (defScope s_page_told) [] [] (He.ga K "page_told") fd ∧ Binds K fd p_page_told [] := by
  obtain ⟨fd, F⟩ := T.c.def_ 27 (d := dd_page_told) rfl
  exact ⟨fd, F, FunD.bindsN (ps := p_page_told) F fun _ _ _ _ _ _ us hl => match us, hl with | [_], _ => rfl⟩
theorem Tx.d_plain_journal (T : Tx P K mg) : ∃ fd, FunD K "plain_journal" "plain_journal" (defArgs s_plain_journal) (defBody s_plain_journal) (defScope s_plain_journal) [] [] (He.ga K "plain_journal") fd ∧ Binds K fd p_plain_journal [] := by
  obtain ⟨fd, F⟩ := T.c.def_ 28 (d := dd_plain_journal) rfl
  exact ⟨fd, F, FunD.bindsN (ps := p_plain_journal) F fun _ _ _ _ _ _ us hl => match us, hl with | [_], _ => rfl⟩
theorem Tx.d_Journal_init (T : Tx P K mg) : ∃ fd, FunD K "__init__" "Journal.__init__" (defArgs s_Journal_init) (defBody s_Journal_init) (defScope s_Journal_init) [] [] (He.ma K (He.ga K "Journal") "__init__") fd ∧ Binds K fd p_Journal_init [] := by
  obtain ⟨fd, F⟩ := T.c.def_ 29 (d := dd_Journal_init) rfl
  exact ⟨fd, F, FunD.bindsN (ps := p_Journal_init) F fun _ _ _ _ _ _ us hl => match us, hl with | [_], _ => rfl⟩
theorem Tx.d_Journal_written (T : Tx P K mg) : ∃ fd, FunD K "written" "Journal.written" (defArgs s_Journal_written) (defBody s_Journal_written) (defScope s_Journal_written) [] [] (He.ma K (He.ga K "Journal") "written") fd ∧ Binds K fd p_Journal_written [] := by
  obtain ⟨fd, F⟩ := T.c.def_ 30 (d := dd_Journal_written) rfl
  exact ⟨fd, F, FunD.bindsN (ps := p_Journal_written) F fun _ _ _ _ _ _ us hl => match us, hl with | [_, _], _ => rfl⟩
theorem Tx.d_Journal_lay (T : Tx P K mg) : ∃ fd, FunD K "lay" "Journal.lay" (defArgs s_Journal_lay) (defBody s_Journal_lay) (defScope s_Journal_lay) [] [] (He.ma K (He.ga K "Journal") "lay") fd ∧ Binds K fd p_Journal_lay [] := by
  obtain ⟨fd, F⟩ := T.c.def_ 31 (d := dd_Journal_lay) rfl
  exact ⟨fd, F, FunD.bindsN (ps := p_Journal_lay) F fun _ _ _ _ _ _ us hl => match us, hl with | [_, _], _ => rfl⟩
theorem Tx.d_Journal_keep (T : Tx P K mg) : ∃ fd, FunD K "keep" "Journal.keep" (defArgs s_Journal_keep) (defBody s_Journal_keep) (defScope s_Journal_keep) [] [] (He.ma K (He.ga K "Journal") "keep") fd ∧ Binds K fd p_Journal_keep [] := by
  obtain ⟨fd, F⟩ := T.c.def_ 32 (d := dd_Journal_keep) rfl
  exact ⟨fd, F, FunD.bindsN (ps := p_Journal_keep) F fun _ _ _ _ _ _ us hl => match us, hl with | [_], _ => rfl⟩
theorem Tx.d_Journal_loose (T : Tx P K mg) : ∃ fd, FunD K "loose" "Journal.loose" (defArgs s_Journal_loose) (defBody s_Journal_loose) (defScope s_Journal_loose) [] [] (He.ma K (He.ga K "Journal") "loose") fd ∧ Binds K fd p_Journal_loose [] := by
  obtain ⟨fd, F⟩ := T.c.def_ 33 (d := dd_Journal_loose) rfl
  exact ⟨fd, F, FunD.bindsN (ps := p_Journal_loose) F fun _ _ _ _ _ _ us hl => match us, hl with | [_], _ => rfl⟩
theorem Tx.d_Journal_begin (T : Tx P K mg) : ∃ fd, FunD K "begin" "Journal.begin" (defArgs s_Journal_begin) (defBody s_Journal_begin) (defScope s_Journal_begin) [] [] (He.ma K (He.ga K "Journal") "begin") fd ∧ Binds K fd p_Journal_begin [] := by
  obtain ⟨fd, F⟩ := T.c.def_ 34 (d := dd_Journal_begin) rfl
  exact ⟨fd, F, FunD.bindsN (ps := p_Journal_begin) F fun _ _ _ _ _ _ us hl => match us, hl with | [_, _], _ => rfl⟩
theorem Tx.d_Journal_cut (T : Tx P K mg) : ∃ fd, FunD K "cut" "Journal.cut" (defArgs s_Journal_cut) (defBody s_Journal_cut) (defScope s_Journal_cut) [] [] (He.ma K (He.ga K "Journal") "cut") fd ∧ Binds K fd p_Journal_cut [] := by
  obtain ⟨fd, F⟩ := T.c.def_ 35 (d := dd_Journal_cut) rfl
  exact ⟨fd, F, FunD.bindsN (ps := p_Journal_cut) F fun _ _ _ _ _ _ us hl => match us, hl with | [_, _], _ => rfl⟩
theorem Tx.d_open_journal (T : Tx P K mg) : ∃ fd, FunD K "open_journal" "open_journal" (defArgs s_open_journal) (defBody s_open_journal) (defScope s_open_journal) [] [] (He.ga K "open_journal") fd ∧ Binds K fd p_open_journal [] := by
  obtain ⟨fd, F⟩ := T.c.def_ 36 (d := dd_open_journal) rfl
  exact ⟨fd, F, FunD.bindsN (ps := p_open_journal) F fun _ _ _ _ _ _ us hl => match us, hl with | [_], _ => rfl⟩
theorem Tx.d_row_ends (T : Tx P K mg) : ∃ fd, FunD K "row_ends" "row_ends" (defArgs s_row_ends) (defBody s_row_ends) (defScope s_row_ends) [] [] (He.ga K "row_ends") fd ∧ Binds K fd p_row_ends [] := by
  obtain ⟨fd, F⟩ := T.c.def_ 37 (d := dd_row_ends) rfl
  exact ⟨fd, F, FunD.bindsN (ps := p_row_ends) F fun _ _ _ _ _ _ us hl => match us, hl with | [_], _ => rfl⟩
theorem Tx.d_journal_cuts (T : Tx P K mg) : ∃ fd, FunD K "journal_cuts" "journal_cuts" (defArgs s_journal_cuts) (defBody s_journal_cuts) (defScope s_journal_cuts) [] [] (He.ga K "journal_cuts") fd ∧ Binds K fd p_journal_cuts [] := by
  obtain ⟨fd, F⟩ := T.c.def_ 38 (d := dd_journal_cuts) rfl
  exact ⟨fd, F, FunD.bindsN (ps := p_journal_cuts) F fun _ _ _ _ _ _ us hl => match us, hl with | [_], _ => rfl⟩
theorem Tx.d__law_box (T : Tx P K mg) : ∃ fd, FunD K "_law_box" "_law_box" (defArgs s__law_box) (defBody s__law_box) (defScope s__law_box) [] [] (He.ga K "_law_box") fd ∧ Binds K fd p__law_box [] := by
  obtain ⟨fd, F⟩ := T.c.def_ 39 (d := dd__law_box) rfl
  exact ⟨fd, F, FunD.bindsN (ps := p__law_box) F fun _ _ _ _ _ _ us hl => match us, hl with | [_, _], _ => rfl⟩
theorem Tx.d__law_take (T : Tx P K mg) : ∃ fd, FunD K "_law_take" "_law_take" (defArgs s__law_take) (defBody s__law_take) (defScope s__law_take) [] [] (He.ga K "_law_take") fd ∧ Binds K fd p__law_take [] := by
  obtain ⟨fd, F⟩ := T.c.def_ 40 (d := dd__law_take) rfl
  exact ⟨fd, F, FunD.bindsN (ps := p__law_take) F fun _ _ _ _ _ _ us hl => match us, hl with | [_, _], _ => rfl⟩
theorem Tx.d__law_pick (T : Tx P K mg) : ∃ fd, FunD K "_law_pick" "_law_pick" (defArgs s__law_pick) (defBody s__law_pick) (defScope s__law_pick) [] [] (He.ga K "_law_pick") fd ∧ Binds K fd p__law_pick [] := by
  obtain ⟨fd, F⟩ := T.c.def_ 41 (d := dd__law_pick) rfl
  exact ⟨fd, F, FunD.bindsN (ps := p__law_pick) F fun _ _ _ _ _ _ us hl => match us, hl with | [_, _], _ => rfl⟩
theorem Tx.d__law_number (T : Tx P K mg) : ∃ fd, FunD K "_law_number" "_law_number" (defArgs s__law_number) (defBody s__law_number) (defScope s__law_number) [] [] (He.ga K "_law_number") fd ∧ Binds K fd p__law_number [] := by
  obtain ⟨fd, F⟩ := T.c.def_ 42 (d := dd__law_number) rfl
  exact ⟨fd, F, FunD.bindsN (ps := p__law_number) F fun _ _ _ _ _ _ us hl => match us, hl with | [_], _ => rfl⟩
theorem Tx.d__law_form (T : Tx P K mg) : ∃ fd, FunD K "_law_form" "_law_form" (defArgs s__law_form) (defBody s__law_form) (defScope s__law_form) [] [] (He.ga K "_law_form") fd ∧ Binds K fd p__law_form [] := by
  obtain ⟨fd, F⟩ := T.c.def_ 43 (d := dd__law_form) rfl
  exact ⟨fd, F, FunD.bindsN (ps := p__law_form) F fun _ _ _ _ _ _ us hl => match us, hl with | [_], _ => rfl⟩
theorem Tx.d__law_page (T : Tx P K mg) : ∃ fd, FunD K "_law_page" "_law_page" (defArgs s__law_page) (defBody s__law_page) (defScope s__law_page) [] [] (He.ga K "_law_page") fd ∧ Binds K fd p__law_page [] := by
  obtain ⟨fd, F⟩ := T.c.def_ 44 (d := dd__law_page) rfl
  exact ⟨fd, F, FunD.bindsN (ps := p__law_page) F fun _ _ _ _ _ _ us hl => match us, hl with | [_, _, _], _ => rfl⟩
theorem Tx.d__law_lens (T : Tx P K mg) : ∃ fd, FunD K "_law_lens" "_law_lens" (defArgs s__law_lens) (defBody s__law_lens) (defScope s__law_lens) [] [] (He.ga K "_law_lens") fd ∧ Binds K fd p__law_lens [] := by
  obtain ⟨fd, F⟩ := T.c.def_ 45 (d := dd__law_lens) rfl
  exact ⟨fd, F, FunD.bindsN (ps := p__law_lens) F fun _ _ _ _ _ _ us hl => match us, hl with | [_], _ => rfl⟩
theorem Tx.d__law_whole_rows (T : Tx P K mg) : ∃ fd, FunD K "_law_whole_rows" "_law_whole_rows" (defArgs s__law_whole_rows) (defBody s__law_whole_rows) (defScope s__law_whole_rows) [] [] (He.ga K "_law_whole_rows") fd ∧ Binds K fd p__law_whole_rows [] := by
  obtain ⟨fd, F⟩ := T.c.def_ 46 (d := dd__law_whole_rows) rfl
  exact ⟨fd, F, FunD.bindsN (ps := p__law_whole_rows) F fun _ _ _ _ _ _ us hl => match us, hl with | [_, _], _ => rfl⟩
theorem Tx.d__law_row (T : Tx P K mg) : ∃ fd, FunD K "_law_row" "_law_row" (defArgs s__law_row) (defBody s__law_row) (defScope s__law_row) [] [] (He.ga K "_law_row") fd ∧ Binds K fd p__law_row [] := by
  obtain ⟨fd, F⟩ := T.c.def_ 47 (d := dd__law_row) rfl
  exact ⟨fd, F, FunD.bindsN (ps := p__law_row) F fun _ _ _ _ _ _ us hl => match us, hl with | [_], _ => rfl⟩
theorem Tx.d__law_behind (T : Tx P K mg) : ∃ fd, FunD K "_law_behind" "_law_behind" (defArgs s__law_behind) (defBody s__law_behind) (defScope s__law_behind) [] [] (He.ga K "_law_behind") fd ∧ Binds K fd p__law_behind [] := by
  obtain ⟨fd, F⟩ := T.c.def_ 48 (d := dd__law_behind) rfl
  exact ⟨fd, F, FunD.bindsN (ps := p__law_behind) F fun _ _ _ _ _ _ us hl => match us, hl with | [_, _, _], _ => rfl⟩
theorem Tx.d__law_is_right (T : Tx P K mg) : ∃ fd, FunD K "_law_is_right" "_law_is_right" (defArgs s__law_is_right) (defBody s__law_is_right) (defScope s__law_is_right) [] [] (He.ga K "_law_is_right") fd ∧ Binds K fd p__law_is_right [] := by
  obtain ⟨fd, F⟩ := T.c.def_ 49 (d := dd__law_is_right) rfl
  exact ⟨fd, F, FunD.bindsN (ps := p__law_is_right) F fun _ _ _ _ _ _ us hl => match us, hl with | [_, _], _ => rfl⟩
theorem Tx.d__law_cut_right (T : Tx P K mg) : ∃ fd, FunD K "_law_cut_right" "_law_cut_right" (defArgs s__law_cut_right) (defBody s__law_cut_right) (defScope s__law_cut_right) [] [] (He.ga K "_law_cut_right") fd ∧ Binds K fd p__law_cut_right [] := by
  obtain ⟨fd, F⟩ := T.c.def_ 50 (d := dd__law_cut_right) rfl
  exact ⟨fd, F, FunD.bindsN (ps := p__law_cut_right) F fun _ _ _ _ _ _ us hl => match us, hl with | [_, _, _], _ => rfl⟩
theorem Tx.d_law (T : Tx P K mg) : ∃ fd, FunD K "law" "law" (defArgs s_law) (defBody s_law) (defScope s_law) [] [] (He.ga K "law") fd ∧ Binds K fd p_law [] := by
  obtain ⟨fd, F⟩ := T.c.def_ 51 (d := dd_law) rfl
  exact ⟨fd, F, FunD.bindsN (ps := p_law) F fun _ _ _ _ _ _ us hl => match us, hl with | [_], _ => rfl⟩
end
end K53

set_option Elab.async false
set_option linter.all false
set_option maxRecDepth 100000
set_option maxHeartbeats 4000000
/-! a list comprehension whose element calls what may raise: the exception leaves the comprehension and the def -/
namespace K53
open PySem PySem.Spec PyProof.Rows L2
/-- what a callee lets out within a comprehension's block -/
def airB (X0 : Cx) (E : XK) : Value → Shared → Prop := fun u s' => ∃ pins σ H s, L2.Inv X0 pins σ H s ∧ L2.CX X0.prog X0.w X0.stack H s E u s'
abbrev blkX (X : Cx) (E : XK) (s : Shared) (H : Hp) (scope : Scope) (ce : Env) (fp : List Addr) : Cx := (X.blk s H scope ce fp).wish (airB (X.blk s H scope ce fp) E)
theorem passB {X : Cx} {E : XK} {s : Shared} {H : Hp} {scope : Scope} {ce : Env} {fp : List Addr} : Passes (L2.CX X.prog X.w) (blkX X E s H scope ce fp) E :=
  fun pins σ H s _ _ I c => ⟨pins, σ, H, s, I.unwish, c⟩
theorem ns_up {h h' : Heap} {L : Addr} {m : Str → Option Value} (hn : h.Ns L m) (k : ∀ o, h.get? L = some o → (∀ vs, o.data ≠ .fields vs) → ∃ sl, h'.get? L = some { o with slots := sl }) : h'.Ns L m := by
  obtain ⟨o, es, ep, e, d, r⟩ := hn
  obtain ⟨sl, e'⟩ := k o e fun vs q => by rw [d] at q; cases q
  exact ⟨_, es, ep, e', d, r⟩
theorem ff_less {B B' h : Heap} (hl : ∀ b o, B'.get? b = some o → B.get? b = some o) : ∀ {l : List Env}, h.FunFrames B l → h.FunFrames B' l
  | [], _ => trivial
  | env :: l, ⟨hk, ⟨L, o, hf, hn, ho, hd⟩, hr⟩ => by
    have e : B'.get? L = none := by
      cases q : B'.get? L with
      | none => rfl
      | some u => rw [hl _ _ q] at hn; cases hn
    exact ⟨hk, ⟨L, o, hf, e, ho, hd⟩, ff_less hl hr⟩
section
variable {X : Cx} {E : XK} {pins pins' : List (Addr × Obj)} {σ σ' : L2.St} {H3 H1 : Hp} {s3 s1 s' : Shared} {scope : Scope} {ce : Env} {fp : List Addr} {u : Value}
theorem blk_raise (hs : X.stack = X.env :: X.outer) (hf : X.env.frame = some X.env.locals) (tk : Takes X fun cls d _ H => E cls d H) (I3 : L2.Inv X pins σ H3 s3) (I1 : L2.Inv (X.blk s3 H3 scope ce fp) pins' σ' H1 s1) (hce : ce.frame = X.env.frame)
    (cL : ce.locals = s3.heap.objs.size) (f3 : ∀ b ∈ fp, FpOk X pins H3 b ∧ b < s3.heap.objs.size) (c : L2.CX X.prog X.w X.stack H1 s1 E u s') : notedBy (model X.prog X.w) X.A ce (CompFails (model X.prog X.w) X.A X.xe ce) u s' := by
  obtain ⟨a, B, H', cls, d, rfl, fl, hokB, ub, na, os, ag, hE⟩ := c
  obtain ⟨mC, hnC, _⟩ := I1.loc
  have hnC : s1.heap.Ns ce.locals mC := hnC
  obtain ⟨oC, esC, epC, eC, dC, rC⟩ := id hnC
  have hC1 : H1 ce.locals = none := I1.free
  have lt3 : ∀ {b o}, s3.heap.get? b = some o → b ≠ ce.locals := fun {b o} e z => by
    have := Heap.lt_size e
    rw [z, cL] at this
    exact Nat.lt_irrefl _ this
  have hCf : ce.locals ∉ frs X.stack := fun hm => by
    obtain ⟨_, o, e, _⟩ := I3.stack.mem hm
    exact lt3 e rfl
  have BC : B.get? ce.locals = some oC := ub.keep _ _ eC hC1 hCf
  have HC : H' ce.locals = none := ub.free _ _ eC hC1
  obtain ⟨B', g1, g2⟩ := restrict B fun b => decide (b ≠ ce.locals)
  have bB : ∀ b o, B'.get? b = some o → B.get? b = some o := fun b o e => by
    by_cases hb : b = ce.locals
    · rw [g2 b (by simp [hb])] at e; cases e
    · rw [← g1 b (decide_eq_true hb)]; exact e
  have Bb : ∀ b o, b ≠ ce.locals → B.get? b = some o → B'.get? b = some o := fun b o hb e => by rw [g1 b (decide_eq_true hb)]; exact e
  have BCn : B'.get? ce.locals = none := g2 _ (by simp)
  have hfr : X.A.frames = some (X.env :: X.outer) := by rw [I3.ok.frames, hs]
  have less : ∀ {T : Addr}, B.get? T = none → B'.get? T = none := fun {T} e => by
    cases q : B'.get? T with
    | none => rfl
    | some o => rw [bB _ _ q] at e; cases e
  have fl' : HandSPX.FlyingZ B' (X.env :: X.outer) a (Zc cls d) s'.heap := by
    obtain ⟨q1, q2, q3, oe, vs, T, oT, ts, x1, x2, x3, x4, x5, x6⟩ := fl
    rw [hs] at q3
    exact ⟨fun b o e => q1 b o (bB b o e), less q2, ff_less bB q3, oe, vs, T, oT, ts, x1, x2, x3, x4, less x5, x6⟩
  show wpAny _ _ (noteFrame (.ref a) ce) _ _ _
  rw [noteFrame_env _ hce]
  refine HandSPX.looks_onZ Zc.steady hfr hf fl' fun h1 hh1 up1 => ?_
  have hn1 : h1.Ns ce.locals mC := ns_up hnC fun o e nf => by
    rw [eC] at e; cases e
    exact up1 _ _ (fl.1 _ _ BC) nf
  refine ⟨mC, hn1, fun h2 m2 hn2 sb => ?_⟩
  have notC : ∀ {b : Addr} {o : Obj} {vs : Array Value}, h1.get? b = some o → o.data = .fields vs → b ≠ ce.locals := fun {b o vs} e d z => by
    obtain ⟨o2, es2, ep2, e2, d2, _⟩ := hn1
    rw [z, e2] at e; cases e
    rw [d] at d2; cases d2
  have hh2 : HandSPX.HeldZ B' (X.env :: X.outer) a (Zc cls d) X.env.locals h2 := by
    obtain ⟨q1, q2, q3, oe, vs, T, oT, ts, x1, x2, x3, x4, x5, x6, x7, x8, x9⟩ := hh1
    exact ⟨fun b o e => (sb.2 b fun z => by rw [z, BCn] at e; cases e).trans (q1 b o e), q2, Heap.FunFrames.sameBut sb hn2 q3, oe, vs, T, oT, ts, (sb.2 a (notC x1 x3)).trans x1, x2, x3, x4, x5, x6, (sb.2 T (notC x7 x8)).trans x7, x8, x9⟩
  obtain ⟨_, _, _, oe, vs, T, oT, ts, he, hz, hd, hv1, hr⟩ := id hh2
  unfold PySem.passOn
  refine wpAny_bind (wpAny_field he hd hv1 ?_)
  rw [if_neg (show ¬ ((Value.ref T == Value.none) = true) from by simp), hce, hf]
  have fin : wpAny (model X.prog X.w) X.A (setFlight (.ref a) (some X.env.locals)) (fun _ s4 => wpAny (model X.prog X.w) X.A (throw (.ref a) : Sem Value) (fun _ _ => False) X.xe s4) X.xe { s' with heap := h2 } := by
    refine HandSPX.setFlight_onZ (s := { s' with heap := h2 }) hh2 fun h4 hh4 up4 => wpAny_throw (tk _ _ ?_)
    have st4 : B'.StaysIn h4 := hh4.1
    obtain ⟨G, G1, G2⟩ := restrict h4 fun b => (B'.get? b).isSome || decide (b ∈ frs X.stack)
    have gB : ∀ b o, B'.get? b = some o → G.get? b = some o := fun b o e => by rw [G1 b (by simp [e])]; exact st4 b o e
    have gF : ∀ b, b ∈ frs X.stack → G.get? b = h4.get? b := fun b hb => G1 b (by simp [hb])
    have og : ∀ b o, G.get? b = some o → h4.get? b = some o ∧ ((B'.get? b).isSome = true ∨ b ∈ frs X.stack) := fun b o e => by
      cases q : ((B'.get? b).isSome || decide (b ∈ frs X.stack)) with
      | false => rw [G2 b q] at e; cases e
      | true => rw [G1 b q] at e; exact ⟨e, by simpa [Bool.or_eq_true] using q⟩
    -- the frames' slots, all the way
    have frm : ∀ b ∈ frs X.stack, ∀ o, s1.heap.get? b = some o → (∀ vs, o.data ≠ .fields vs) → ∃ sl, h4.get? b = some { o with slots := sl } := fun b hb o e nf => by
      obtain ⟨sl, e1⟩ := ub.slot b o e hb
      obtain ⟨sl2, e2⟩ := up1 b _ e1 nf
      have hbC : b ≠ ce.locals := fun z => hCf (z ▸ hb)
      obtain ⟨sl3, e3⟩ := up4 b _ ((sb.2 b hbC).trans e2) nf
      exact ⟨sl3, e3⟩
    have nx : ∀ {b : Addr}, b ∉ fp → b ∉ (X.blk s3 H3 scope ce fp).ex := fun h => h
    have U : Un (frs X.stack) fp H3 H' s3.heap G := {
      keep := fun b o z n hb hx => gB b o (Bb b o (lt3 z) (ub.keep b o (I1.base.keep b o z n hb hx) (I1.base.free b o z n hx) hb))
      slot := fun b o z n hb hx => by
        obtain ⟨sl, e1⟩ := I1.base.slot b o z n hb hx
        obtain ⟨_, o', e', nf⟩ := I3.stack.mem hb
        rw [z] at e'; cases e'
        obtain ⟨sl2, e2⟩ := frm b hb _ e1 nf
        exact ⟨sl2, by rw [gF b hb]; exact e2⟩
      free := fun b o z n hx => by
        obtain ⟨o', e1⟩ := I1.base.there b o z hx
        exact ub.free b o' e1 (I1.base.free b o z n hx)
      there := fun b o z hx => by
        obtain ⟨o', e1⟩ := I1.base.there b o z hx
        by_cases hb : b ∈ frs X.stack
        · obtain ⟨_, o2, e2, nf⟩ := I3.stack.mem hb
          have n3 : H3 b = none := I3.stkFree b hb
          rw [z] at e2; cases e2
          obtain ⟨sl, e3⟩ := I1.base.slot b o z n3 hb hx
          obtain ⟨sl2, e4⟩ := frm b hb _ e3 nf
          exact ⟨_, by rw [gF b hb]; exact e4⟩
        · obtain ⟨o2, e2⟩ := ub.there b o' e1 hb
          exact ⟨o2, gB b o2 (Bb b o2 (lt3 z) e2)⟩
      tups := fun b xs z => ub.tups b xs (I1.base.tups b xs z)
      frzs := fun b o v z => ub.frzs b o v (I1.base.frzs b o v z)
      tbls := fun b ps z => by
        obtain ⟨m1, z1⟩ := I1.base.tbls b ps z
        obtain ⟨m2, z2⟩ := ub.tbls b _ z1
        exact ⟨m1 ++ m2, by rw [z2, Array.append_assoc]⟩ }
    have hokG : HOk X.prog X.w H' G := fun b o q => (hokB b o q).stay (fun c v hc r => gB c v (Bb c v (fun z => by
        rcases hc with hc | hc
        · rw [← hc, z, HC] at q; cases q
        · rw [z, HC] at hc; cases hc) r)) (fun _ r => r) fun _ _ r => r
    have J : L2.Inv X pins σ H' { s' with heap := G } := I3.call' (ch := fp) (s' := { s' with heap := G }) (os.trans I1.os) U hokG ag fun b hb => ⟨(f3 b hb).1.2.2.2.1, (f3 b hb).1.2.1, (f3 b hb).1.2.2.2.2.1, (f3 b hb).1.2.2.2.2.2⟩
    refine ⟨a, B', { s' with heap := G }, pins, σ, H', cls, d, rfl, J, fun b o e hb => ?_, Heap.UpToSlots.of_keeps fun b o e => (og b o e).1, .inr (.inr (by rw [hs]; exact hh4)), na, rfl, ag, hE⟩
    obtain ⟨e', h⟩ := og b o e
    rcases h with h | h
    · obtain ⟨o', q⟩ := Option.isSome_iff_exists.mp h
      have z := st4 b o' q
      rw [e'] at z; cases z
      exact q
    · exact absurd h hb
  first
    | exact wpAny_bind (wpAny_pure (wpAny_bind fin))
    | exact wpAny_bind fin
theorem pe_lcX {elt tg iter : Expr} {ifs : List Expr} {scope : Scope} {own : List (Str × Nat)} {pos : Pos} {wi : TI} {g : TG} {tt : TT} {te : TE} (hc : X.calm = true) (hN : X.N.Nodup) (hs0 : X.stack = X.env :: X.outer) (hf0 : X.env.frame = some X.env.locals)
    (tk : Takes X fun cls d _ H => E cls d H) (hi : PI X tg iter wi) (ok : BlkOk X.N X.env.scope scope own)
    (hg : ∀ (s : Shared) (H : Hp) (C : Addr) (cl : List (Str × Addr)) (fp : List Addr), PG (blkX X E s H scope (compEnvC scope cl C X.env) fp) tg g)
    (ht : ∀ (s : Shared) (H : Hp) (C : Addr) (cl : List (Str × Addr)) (fp : List Addr), PTs (blkX X E s H scope (compEnvC scope cl C X.env) fp) ifs tt)
    (he : ∀ (s : Shared) (H : Hp) (C : Addr) (cl : List (Str × Addr)) (fp : List Addr), PE (blkX X E s H scope (compEnvC scope cl C X.env) fp) elt te)
    (hs : ∀ x, foldedSetIterable iter X.env x = pure x := by intro _; rfl) : PE X (.ListComp elt [⟨tg, iter, ifs, 0⟩] scope pos) (tLc wi g tt te (own.map (·.2))) := by
  refine ⟨fun pins s σ H Q I h => ?_⟩
  rw [eval_ListComp]
  have free : ∀ y ∈ scope.names, y.2 = .free → ∃ c, X.env.cells.lookup y.1 = some c := fun y hy e => I.ok.has _ (ok.free y hy e)
  refine comprehension_at (use := none) rfl hs (closure_ok free) ok.kind (fun y hy e => by rw [ok.uniq y hy, e]) (thn (hi.run pins s σ H _ I h) fun _ s1 hx => thn hx fun _ s2 h2 => ?_)
  obtain ⟨it, fp, tn, J, H2, rfl, I2, T, st2, f2, q⟩ := h2
  refine wpAny_newObj_type (newEnv_comp ?_) (by show 0 ≤ sizeLine; decide)
  generalize hD : s2.heap.objs.size = D
  obtain ⟨W, ⟨m0, w0⟩, turn⟩ := q D (I2.hok.fresh (Nat.le_of_eq hD))
  generalize hs3 : ({ s2 with heap := s2.heap.push { cls := .type "list", data := .seq ([] : List Value).toArray } } : Shared) = s3
  have h3 : s3.heap = s2.heap.push { cls := .type "list", data := .seq ([] : List Value).toArray } := by rw [← hs3]
  have up3 : ∀ b o, s2.heap.get? b = some o → s3.heap.get? b = some o := fun b o e => by rw [h3]; exact Heap.get?_push_of_some _ e
  have I3 : L2.Inv X pins σ (upd H2 D (.lst [])) s3 := by
    rw [← hs3]
    exact I2.laid (t' := s2.toks) (fun b o e => Heap.get?_push_of_some _ e) (Nat.le_of_eq hD) ⟨Nat.zero_le _, [], 0, .nil, by rw [← hD]; exact Heap.get?_push_size _ rfl⟩
  have f3 : ∀ b ∈ fp, FpOk X pins (upd H2 D (.lst [])) b ∧ b < s3.heap.objs.size := fun b hb => by
    obtain ⟨o, e, _⟩ := T.obj _ _ st2 b hb
    have lt := Heap.lt_size e
    exact ⟨⟨by rw [upd_ne (by rw [← hD]; exact Nat.ne_of_lt lt)]; exact (f2 b hb).1, (f2 b hb).2⟩, Heap.lt_size (up3 b o e)⟩
  have st3 : tn 0 s3.heap := T.keep _ _ _ st2 fun b _ o e => up3 b o e
  have I4 := block_start I3 ok hN f3
  have P1 := hg s3 (upd H2 D (.lst [])) s3.heap.objs.size (cellsFrom (s3.heap.objs.size + 1) scope.names (cloFrom X.env.cells scope.names [])) fp
  have P2 := ht s3 (upd H2 D (.lst [])) s3.heap.objs.size (cellsFrom (s3.heap.objs.size + 1) scope.names (cloFrom X.env.cells scope.names [])) fp
  have P3 := he s3 (upd H2 D (.lst [])) s3.heap.objs.size (cellsFrom (s3.heap.objs.size + 1) scope.names (cloFrom X.env.cells scope.names [])) fp
  show codeAny _ _ (.compStart (.ListComp elt [⟨tg, iter, ifs, 0⟩] scope pos) 0 (.ref it) (.ref D) (compEnvC scope (cellsFrom (s3.heap.objs.size + 1) scope.names (cloFrom X.env.cells scope.names [])) s3.heap.objs.size X.env))
    (compEnds (model X.prog X.w) X.A X.xe none (EP X pins σ Q) (.ref D) (compEnvC scope (cellsFrom (s3.heap.objs.size + 1) scope.names (cloFrom X.env.cells scope.names [])) s3.heap.objs.size X.env)) { s3 with heap := pushCells (s3.heap.push { cls := .type "dict", data := .dict #[] }) scope.names }
  have nfp : ∀ b ∈ fp, (upd H2 D (.lst [])) b = none := fun b hb => (f3 b hb).1.1
  generalize hce : compEnvC scope (cellsFrom (s3.heap.objs.size + 1) scope.names (cloFrom X.env.cells scope.names [])) s3.heap.objs.size X.env = ce at I4 P1 P2 P3 ⊢
  have cL : ce.locals = s3.heap.objs.size := by subst hce; rfl
  have cF : ce.frame = X.env.frame := by subst hce; rfl
  generalize hH3 : upd H2 D (.lst []) = H3 at I3 I4 P1 P2 P3 w0 nfp f3
  generalize hs4 : ({ s3 with heap := pushCells (s3.heap.push { cls := .type "dict", data := .dict #[] }) scope.names } : Shared) = s4 at I4 ⊢
  have st4 : tn 0 s4.heap := T.keep _ _ _ st3 fun b _ o e => by rw [← hs4]; exact pushCells_keeps _ _ _ _ (Heap.get?_push_of_some _ e)
  -- what an exception of the block owes
  have air : ∀ {α : Type} {t : Sem α} {R1 R2 : α → Shared → Prop} {s' : Shared}, wpAny (model X.prog X.w) X.A t R1 (airB (X.blk s3 H3 scope ce fp) E) s' → (∀ a s'', R1 a s'' → R2 a s'') →
      wpAny (model X.prog X.w) X.A t R2 (notedBy (model X.prog X.w) X.A ce (CompFails (model X.prog X.w) X.A X.xe ce)) s' := fun h hR => wpAny_mono h hR fun _ _ ⟨_, _, _, _, Ib, c⟩ => blk_raise hs0 hf0 tk I3 Ib cF cL f3 c
  have stat : ∀ {σ' : L2.St} {H' : Hp} {s' : Shared}, L2.Inv (X.blk s3 H3 scope ce fp) [] σ' H' s' → (∀ b ∈ fp, H' b = none) → ∀ b ∈ fp, FpOk (X.blk s3 H3 scope ce fp) [] H' b := fun {σ' H' s'} I' hn b hb =>
    ⟨hn b hb, (I'.ok.exf b hb).1, I'.ok.exfs b hb, .inl hb, fun x c e => (I'.ok.exf b hb).2 x c e, fun p hp => absurd (show p ∈ ([] : List (Addr × Obj)) ++ [] from hp) (by simp)⟩
  have loop : codeAny (model X.prog X.w) X.A (.compLoop (.ListComp elt [⟨tg, iter, ifs, 0⟩] scope pos) 0 (.ref it) (.ref D) ce) (compEnds (model X.prog X.w) X.A X.xe none (EP X pins σ Q) (.ref D) ce) s4 := by
    refine compLoop_any (fun n s' => ∃ i H', L2.Inv (X.blk s3 H3 scope ce fp) [] (wipe σ (own.map (·.2))) H' s' ∧ tn i s'.heap ∧ (∀ b ∈ fp, H' b = none) ∧ W i n H') ?_ m0 ⟨0, H3, I4, st4, nfp, w0⟩
    rintro n s5 ⟨i, H5, I5, st5, n5, w5⟩
    rcases turn i n H5 w5 with ⟨stop, qq⟩ | ⟨go, Nx, hNx, step⟩
    · refine thnF (T.done (X.blk s3 H3 scope ce fp) rfl rfl rfl hc i [] s5 _ H5 (fun _ _ => False) I5 (stat I5 n5) st5 stop) fun r s6 ⟨hr, I6⟩ => ?_
      subst hr
      have I7 : L2.Inv X pins σ H5 s6 := I3.call' (ch := fp) I6.os I6.base I6.hok I6.bare fun b hb => ⟨(f3 b hb).1.2.2.2.1, (f3 b hb).1.2.1, (f3 b hb).1.2.2.2.2.1, (f3 b hb).1.2.2.2.2.2⟩
      have nC : H5 s3.heap.objs.size = none := by rw [← cL]; exact I6.free
      obtain ⟨m, hn, _⟩ := I6.loc
      refine ⟨m, hn, fun h'' sb => ?_⟩
      obtain ⟨f0, f1, f2', f3', f4, f5⟩ := I3.fpOk (Nat.le_refl _) nC
      exact ⟨.ref D, H5, I7.turned (t' := s6.toks) (it := s3.heap.objs.size) (fun b o hb e => (sb.2 b (by rw [cL]; exact hb)).trans e) f0 f1 f3' f4 f5, rfl, qq⟩
    · refine thnF (T.item (X.blk s3 H3 scope ce fp) rfl rfl rfl hc i [] s5 _ H5 (fun _ _ => False) I5 (stat I5 n5) st5 go) fun r s6 ⟨u, hr, h6⟩ => ?_
      subst hr
      refine thnF h6 fun _ s7 ⟨x, H7, I7, r7, y7, st7, n7⟩ => ?_
      have I7' := I7.pinned (stat I7 n7) (T.obj _ _ st7)
      refine air (P1.run _ s7 _ H7 x u _ (I7'.wish _) r7 (step x H7 y7)) fun _ s8 ⟨σ8, H8, I8, hw8, q8⟩ => ?_
      refine air (P2.run _ s8 σ8 H8 _ I8 q8) fun b s9 ⟨H9, I9, q9⟩ => ?_
      have fin : ∀ {s' : Shared} {H' : Hp}, L2.Inv (X.blk s3 H3 scope ce fp) ([] ++ pinsAt fp s7.heap) σ8 H' s' → Nx H' → ∃ m, m < n ∧ ∃ i H', L2.Inv (X.blk s3 H3 scope ce fp) [] (wipe σ (own.map (·.2))) H' s' ∧ tn i s'.heap ∧ (∀ b ∈ fp, H' b = none) ∧ W i m H' := fun {s' H'} I' nx => by
        obtain ⟨m', hm, w'⟩ := hNx H' nx
        have pin' : ∀ b ∈ fp, ∀ o, s7.heap.get? b = some o → s'.heap.get? b = some o ∧ H' b = none := fun b hb o e =>
          let z := I'.pin (b, o) (List.mem_append_right _ (List.mem_append_right _ (mem_pinsAt hb e)))
          ⟨z.1, z.2.1⟩
        refine ⟨m', hm, i + 1, H', (I'.unpinned (pins := [])).weak (by rw [← hw8, wipe_length]) (fun j v e => by rw [← hw8] at e; exact (wipe_some e).1), T.keep _ _ _ st7 fun b hb o e => (pin' b hb o e).1, fun b hb => ?_, w'⟩
        obtain ⟨o, e, _⟩ := T.obj _ _ st7 b hb
        exact (pin' b hb o e).2
      cases b with
      | false =>
        simp only [Bool.false_eq_true, if_false] at q9 ⊢
        exact fin I9.unwish q9
      | true =>
        simp only [if_true] at q9 ⊢
        refine air (P3.run _ s9 σ8 H9 _ I9 q9) fun z s10 ⟨yv, H10, I10, r10, acc, hD10, hz10, nx⟩ => ?_
        exact app_ok (X := X.blk s3 H3 scope ce fp) I10.unwish hD10 hz10 r10 fun s11 I11 => fin I11 nx
  exact codeAny_compStart_list loop (T.self X.A 0 _ _ _ st4 loop)
end
end K53

set_option Elab.async false
set_option linter.all false
set_option maxRecDepth 100000
set_option maxHeartbeats 4000000
/-! repr of data, and promises of defs that are called where no repr is under way (A.guards = some []) -/
namespace K53
open PySem PySem.Spec PyProof.Rows L2
/-! ### promises where no guard is on the stack -/
structure FnG (P : Program) (w : World) (K : PySem.W.Frag) (mg : Str → Option Value) (base : Heap) (CX : CXT) (k : Nat) (f : Addr) (fd : FuncData) (ps : List Str) (sp : Sp) : Prop where
  len : ∀ vs H Q E, sp vs H Q E → vs.length = ps.length
  run : ∀ (A : Around) (outer : List Env) (s : Shared) (H : Hp) (args : Args) (us : List Value) (vs : List V) (Q : VK) (E : XK), A.guards = some [] → Room k A → Env0 P w K mg base A outer s H → BindsTo s fd args (ps.zip us) →
    Vals vs us → sp vs H Q E → codeAny (model P w) A (.call (.ref f) args) (CR CX outer P w H s Q E) s
section
variable {P : Program} {w : World} {K : PySem.W.Frag} {mg : Str → Option Value} {base : Heap}
/-- a def's body, its guards known -/
theorem funD_okG {CX : CXT} {x qual : Str} {params : Arguments} {body : List Stmt} {scope : Scope} {dvs : List V} {kws : List (Str × V)} {f : Addr} {fd : FuncData} {N ps : List Str} {k : Nat} {sp : Sp}
    (F : FunD K x qual params body scope dvs kws f fd) (S : FnScope N ps scope) (len : ∀ vs H Q E, sp vs H Q E → vs.length = ps.length)
    (hbody : ∀ (cdv : Value) (A : Around) (outer : List Env) (s : Shared) (H : Hp) (vs : List V) (Q : VK) (E : XK), (A.deeper (envOfC qual scope s.heap.objs.size f cdv)).guards = some [] → Room k (A.deeper (envOfC qual scope s.heap.objs.size f cdv)) → sp vs H Q E →
      ∃ t, PSs (cxOf CX P w K mg base N qual scope f cdv A outer s H E) body t ∧ t { nx := fun _ H' => Q .non H', rt := Q } (start N vs) H) : FnG P w K mg base CX (k + 1) f fd ps sp := by
  obtain ⟨oc, od, dV, kV, doc, pm, an, cdv, ct, osl, rfl, lk, hcd, _, _⟩ := F.ex
  refine ⟨len, fun A outer s H args us vs Q E hgd hr e0 hb r hsp => ?_⟩
  -- the promise at this very A: what is asked of the sp is this call's own entry
  have base1 := e0.mod.kin.keeps fun b o e => (e0.bs b o e).1
  have lim : s.heap.NoLimit := e0.mod.nolimit.keeps fun b o e => (e0.bs b o e).1
  have kinds : ∀ y ∈ ps.zip us, scope.names.lookup y.1 = some .local ∨ (scope.names.lookup y.1 = some .cell ∧ ((cellsFrom (s.heap.objs.size + 1) scope.names []).lookup y.1).isSome = true) := by
    rintro ⟨n, v⟩ hy
    exact (S.par n (List.of_mem_zip hy).1).imp id fun q => ⟨q, PySem.W.cellsFrom_some _ _ _ (.inl q)⟩
  refine codeAny_call_function hr.depth (base1 _ _ lk) rfl S.co S.gen rfl (PySem.W.codeRec_of base1 hcd) (hb _ _ _ _ (wpAny_newFunctionEnv_cells S.kind kinds fun env he s1 x => ?_))
  subst he
  obtain ⟨t, ht, hq⟩ := hbody cdv A outer s H vs Q E hgd (hr.deeper _) hsp
  have I := inv_start (E := E) (CX := CX) S hr.hd e0 (len _ _ _ _ hsp) r x
  refine ⟨lim.keeps x.toInCall.keep, codeAny_func (wpAny_mono (ht.run [] s1 (start N vs) H _ I hq) (fun fl s' hs => ?_) fun _ _ h => h)⟩
  cases fl with
  | ret u =>
    obtain ⟨v, _, H', J, rv, q⟩ := hs
    exact ⟨v, H', J.os, J.bare, J.base, J.hok, rv, q⟩
  | next =>
    obtain ⟨_, H', J, q⟩ := hs
    exact ⟨V.non, H', J.os, J.bare, J.base, J.hok, rfl, q⟩
  | brk => exact hs.elim fun _ h => h.elim fun _ h => h.2.elim
  | cont => exact hs.elim fun _ h => h.elim fun _ h => h.2.elim
end
section
variable {X : Cx} {CX : CXT} {k : Nat} {f : Addr} {fd : FuncData} {ps : List Str} {sp : Sp} {E : XK} {x : Str} {p pos : Pos} {e : Expr} {es : List Expr} {t : TA}
/-- f(e, ..) where no guard is on the stack -/
theorem pe_callG (gd : X.A.guards = some []) (F : FnG X.prog X.w X.K X.mg X.base CX k f fd ps sp) (hr : Room k X.A) (hg : Gl X x) (hm : X.mg x = some (.ref f)) (hk : PySem.W.keepIn X.K (.ref f) = true) (hb : Binds X.K fd ps []) (hx : Passes CX X E)
    (ha : PA X (e :: es) t) (hdb : (x == ("__debug__" : Str)) = false := by decide) (he : starEach (e :: es) X.env = (false, eval e X.env) :: starEach es X.env := by rfl) (hpl : (backTo pos (starEach es X.env)).any (·.1) = false := by rfl) :
    PE X (.Call (.Name x p) (e :: es) [] pos) (tCall sp [] E t) := by
  refine ⟨fun pins s σ H Q I h => wpAny_Call_Name_kw (ld_glob I hg hm ?_ hdb)⟩
  refine PySem.W.callWith_K (h₀ := X.base) I.ok.mod.kin hk (thn (ha.run pos pins s σ H _ I h) fun us s1 ⟨vs, H1, I1, r, q⟩ => ⟨I1.kIn, ?_⟩) he hpl
  have q : sp (vs ++ []) H1 Q E := q
  rw [List.append_nil] at q
  have hl : us.length = ps.length := by rw [← r.length]; exact F.len _ _ _ _ q
  have b0 := hb s1 us I1.kIn (by rw [List.append_nil]; exact hl)
  rw [List.append_nil] at b0
  refine wpAny_call (codeAny_mono (F.run X.A X.stack s1 H1 ⟨us, []⟩ us vs Q E gd hr I1.env0 b0 r q) fun r s' hq => ?_)
  cases r with
  | error e => exact hx pins σ H1 s1 e s' I1 hq
  | ok fl => cases fl with
    | ret u => exact I1.after hq
    | next => exact hq.elim
    | brk => exact hq.elim
    | cont => exact hq.elim
end
/-! ### repr of data -/
mutual
theorem dp_noDict {K : PySem.W.Frag} {H : Hp} : ∀ (d : PyData) (v : V), Dp K H v d → d.hasDict = false
  | .none, _, _ => by simp [PyData.hasDict]
  | .bool _, _, _ => by simp [PyData.hasDict]
  | .int _, _, _ => by simp [PyData.hasDict]
  | .str _, _, _ => by simp [PyData.hasDict]
  | .list ds, _, h => by
    cases h with
    | lst _ ha => simpa [PyData.hasDict] using dpAll_noDict ds _ ha
  | .tuple ds, _, h => by
    cases h with
    | tup _ ha => simpa [PyData.hasDict] using dpAll_noDict ds _ ha
  | .dict _, _, h => by cases h
theorem dpAll_noDict {K : PySem.W.Frag} {H : Hp} : ∀ (ds : List PyData) (vs : List V), DpAll K H vs ds → PyData.hasDictAll ds = false
  | [], _, _ => by simp [PyData.hasDictAll]
  | d :: ds, _, h => by
    cases h with
    | cons h1 h2 => simp [PyData.hasDictAll, dp_noDict d _ h1, dpAll_noDict ds _ h2]
end
def rRepr (K : PySem.W.Frag) : List V → Hp → VK → Prop := fun xs H Q => ∃ (x : V) (d : PyData), xs = [x] ∧ Dp K H x d ∧ d.showable = true ∧ d.depth ≤ 60 ∧ d.shown.length ≤ sizeLine ∧ (∀ b, d ≠ .bool b) ∧ d ≠ .none ∧ (∀ z, d ≠ .str z) ∧ Q (.str d.shown) H
theorem call_repr {X : Cx} (gd : X.A.guards = some []) (hu : X.A.units + 64 < cLine) : CallR X (.builtin "repr") (rRepr X.K) := by
  intro pins s σ H xs us Q I r h
  obtain ⟨x, d, rfl, hd, hs, hdep, hz, n1, n2, n3, q⟩ := h
  cases r with
  | @cons _ u _ ur rx rr =>
    cases rr
    cases hd with
    | non => exact absurd rfl n2
    | bl b => exact absurd rfl (n1 b)
    | int i =>
      obtain ⟨t, rfl⟩ := rx
      simp only [PyData.shown] at q
      exact PySem.P.repr_of_int (by simpa [PyData.showable] using hs) ⟨.str _, H, I.tok _, ⟨_, rfl⟩, q⟩
    | str z => exact absurd rfl (n3 z)
    | @lst a xs ds hq ha =>
      have hd : Dp X.K H (.ref a) (.list ds) := .lst hq ha
      obtain ⟨as, rd⟩ := Dp.reads I _ _ u hd rx
      obtain rfl : u = Value.ref a := rx
      exact repr_of_reads' (h₀ := s.heap) rd hs (PyData.noDict_hsm (dp_noDict _ _ hd)) gd (by omega) (fun _ _ e => e) (fun h' u tk k => ⟨.str _, H, I.kept (t' := tk) k, ⟨_, rfl⟩, q⟩) hz
    | @tup a xs ds hq ha =>
      have hd : Dp X.K H (.ref a) (.tuple ds) := .tup hq ha
      obtain ⟨as, rd⟩ := Dp.reads I _ _ u hd rx
      obtain rfl : u = Value.ref a := rx
      exact repr_of_reads' (h₀ := s.heap) rd hs (PyData.noDict_hsm (dp_noDict _ _ hd)) gd (by omega) (fun _ _ e => e) (fun h' u tk k => ⟨.str _, H, I.kept (t' := tk) k, ⟨_, rfl⟩, q⟩) hz
/-! ### the law's entry, where the script's bits and the guards are told -/
theorem law_callG {P : Program} {w : World} {K : PySem.W.Frag} {mg mb : Str → Option Value} {CX : CXT} {k : Nat} {fa a : Addr} {fd : FuncData} {x : Str} {sp : Sp} {s₁ : Shared} {vs : List Value} {ns : List Int} (KX : K.In s₁.heap) (hns : s₁.heap.Ns mainGlobals mg)
    (hb : s₁.heap.Ns builtinsNs mb) (hbb : ∀ x : Str, x ≠ "__name__" → mb x = bootBuiltins x) (hlim : s₁.heap.NoLimit) (hg : s₁.gens = #[]) (ha : s₁.heap.get? a = some { cls := .type "list", data := .seq vs.toArray }) (hi : IntsAre vs ns)
    (hl : ns.length ≤ sizeLine) (hr : Room k callerA) (F : ∀ base : Heap, K.In base → base.Ns mainGlobals mg → FnG P w K mg base CX k fa fd [x] sp) (hbind : ∀ (s : Shared) (u : Value), BindsTo s fd ⟨[u], []⟩ [(x, u)])
    (hsp : ∀ H : Hp, Only H → SqL K H a (ns.map V.int) → sp [.ref a] H (fun v _ => v = .bl true) fun _ _ _ => False) (hCX : ∀ H e s', CX [] H s₁ (fun _ _ _ => False) e s' → False) :
    codeAny (model P w) callerA (.call (.ref fa) ⟨[.ref a], []⟩) (fun r s' => r = .ok (.ret (.bool true)) ∧ OldK s₁.heap s'.heap ∧ s'.os = s₁.os ∧ AllBare s'.gens) s₁ := by
  have rv := vals_ints hi
  have go : ∀ H : Hp, Only H → SqL K H a (ns.map V.int) → HOk P w H s₁.heap → (∀ b, H b ≠ none → b = a ∧ K.lookup a = none) →
      codeAny (model P w) callerA (.call (.ref fa) ⟨[.ref a], []⟩) (fun r s' => r = .ok (.ret (.bool true)) ∧ OldK s₁.heap s'.heap ∧ s'.os = s₁.os ∧ AllBare s'.gens) s₁ := by
    intro H hO hS hok hA
    -- what is not the script stands in the hidden heap
    have free : ∀ {b : Addr} {o : Obj}, s₁.heap.get? b = some o → (∀ n, o.data ≠ .seq vs.toArray n) → H b = none := fun {b o} e nd => by
      cases q : H b with
      | none => rfl
      | some u =>
        obtain ⟨rfl, _⟩ := hA b (by rw [q]; simp)
        rw [ha] at e; cases e
        exact absurd rfl (nd _)
    have nsK : ∀ {b : Addr} {m : Str → Option Value}, s₁.heap.Ns b m → (hidT s₁.heap H).Ns b m := fun {b m} ⟨o, es, ep, e, d, r⟩ => ⟨o, es, ep, hidT_get e (free e fun n z => by rw [d] at z; cases z), d, r⟩
    have hKb : K.In (hidT s₁.heap H) := fun b o e => hidT_get (KX b o e) (by
      cases q : H b with
      | none => rfl
      | some u =>
        obtain ⟨rfl, z⟩ := hA b (by rw [q]; simp)
        rw [z] at e; cases e)
    have hM : Mod K mg (hidT s₁.heap H) := ⟨hKb, nsK hns, ⟨mb, nsK hb, hbb⟩, let ⟨mc, h1, h2⟩ := hlim; ⟨mc, nsK h1, h2⟩⟩
    have e0 : Env0 P w K mg (hidT s₁.heap H) callerA [] s₁ H := ⟨rfl, hM, fun b o e => of_hidT e, Nat.le_of_eq (hidT_size _ _), trivial, fun b hb => absurd (show b ∈ ([] : List Addr) from hb) (by simp), hok, .of_eq hg⟩
    refine codeAny_mono ((F _ hKb (nsK hns)).run callerA [] s₁ H ⟨[.ref a], []⟩ [.ref a] [.ref a] _ _ rfl hr e0 (hbind s₁ (.ref a)) (.cons rfl .nil) (hsp H hO hS)) fun r s' h => ?_
    match r, h with
    | .error e, h => exact (hCX H e s' h).elim
    | .ok .next, h => exact h.elim
    | .ok .brk, h => exact h.elim
    | .ok .cont, h => exact h.elim
    | .ok (.ret u), ⟨v, H', os, bare, un, hok', r', q⟩ =>
      have q' : v = .bl true := q
      subst q'
      obtain rfl : u = Value.bool true := r'
      refine ⟨rfl, OldK.of_keep fun b o e => ?_, os, bare⟩
      rcases hO b with z | ⟨ob, xs, z⟩
      · exact un.keep b o e z (by intro z; exact absurd (show b ∈ ([] : List Addr) from z) (by simp)) (by simp)
      · obtain ⟨e1, _⟩ := hok b _ z
        obtain ⟨e2, _⟩ := hok' b _ (un.frzs b ob _ z)
        rw [e] at e1; cases e1
        exact e2
  cases hk : K.lookup a with
  | some o =>
    have e := KX a o hk
    rw [ha] at e; cases e
    exact go (fun _ => none) (fun _ => .inl rfl) (.inr ⟨_, vs.toArray, _, hk, rfl, rfl, rfl, by rw [List.size_toArray, hi.length]; exact hl, by simpa using rv⟩) (fun b u z => by have z' : (none : Option HO) = some u := z; cases z') fun b z => absurd rfl z
  | none =>
    have at_ : ∀ {b : Addr} {u : HO}, (if b = a then some (HO.frz { cls := .type "list", data := .seq vs.toArray } (.lst (ns.map V.int))) else none) = some u → b = a ∧ u = .frz { cls := .type "list", data := .seq vs.toArray } (.lst (ns.map V.int)) := fun {b u} z => by
      by_cases hb : b = a
      · rw [if_pos hb] at z
        exact ⟨hb, (Option.some.inj z).symm⟩
      · rw [if_neg hb] at z; cases z
    refine go (fun b => if b = a then some (.frz { cls := .type "list", data := .seq vs.toArray } (.lst (ns.map V.int))) else none) (fun b => ?_) (.inl (.inr ⟨{ cls := .type "list", data := .seq vs.toArray }, if_pos rfl⟩)) (fun b u z => ?_) fun b z => ?_
    · by_cases hb : b = a
      · exact .inr ⟨_, _, if_pos hb⟩
      · exact .inl (if_neg hb)
    · obtain ⟨rfl, rfl⟩ := at_ z
      exact ⟨ha, by rw [List.length_map]; exact hl, vs, _, rv, ha⟩
    · by_cases hb : b = a
      · exact ⟨hb, hk⟩
      · exact absurd (if_neg hb) z
theorem walk_ofG {l : PySem.W.OpenLaw} {n k : Nat} {q : Program} {loose : List Str} {XP : (Str → Option Value) → Heap → Prop} {YP : World → Heap → Prop} {d : DefRec} {CX : CXT} {x : Str} (hn : l.most = some n) (hn2 : n ≤ sizeLine) (hdf : d.params.defaults = []) (hr : Room k callerA)
    (F : ∀ (w : World) (mg : Str → Option Value) (fa : Addr) (h : Heap), YP w h → h.Ns mainGlobals mg → mg d.name = some (.ref fa) → ∃ (K : PySem.W.Frag) (fd : FuncData) (sp : Sp), K.In h ∧ (∀ (s : Shared) (u : Value), BindsTo s fd ⟨[u], []⟩ [(x, u)]) ∧
      (∀ (H : Hp) (a : Addr) (ns : List Int), ns.length ≤ n → (∀ z ∈ ns, Builtin.Int.intBits z ≤ 1048576) → Only H → SqL K H a (ns.map V.int) → sp [.ref a] H (fun v _ => v = .bl true) fun _ _ _ => False) ∧
      ∀ base : Heap, K.In base → base.Ns mainGlobals mg → FnG l.prog w K mg base CX k fa fd [x] sp)
    (hCX : ∀ (H : Hp) (s : Shared) (e : Value) (s' : Shared), CX [] H s (fun _ _ _ => False) e s' → False) : PySem.W.WalkO q loose XP YP l.row.toRowW d [] (fun f vs => PySem.call f vs) := by
  refine Att.attach_callB hn hdf fun w s₀ s₁ mg mb fa o pm cd doc a vs ns G Y ho hd hcd hmg hobj hints hlen hbits hg => ?_
  obtain ⟨K, fd, sp, KX, hb, hsp, hF⟩ := F w mg fa _ Y G.T.g hmg
  exact law_callG KX G.T.g G.T.b G.T.builtins G.T.nolimit hg hobj hints (Nat.le_trans hlen hn2) hr hF hb (fun H hO hS => hsp H a ns hlen hbits hO hS) fun H e s' => hCX H s₁ e s'
end K53

set_option Elab.async false
set_option linter.all false
set_option maxRecDepth 100000
set_option maxHeartbeats 4000000
/-! small rules: methods with keywords, fields as targets, enumerate of a tuple, //= , extend by a tuple -/
namespace K53
open PySem PySem.Spec PyProof.Rows L2
/-! ### o.m(k = e, ..) without positional arguments -/
def tMethK (C : Addr) (m : Str) (sp : Sp) (gV : List V → List V → List V) (E : XK) (ta : TE) (tk : TA) : TE := fun σ H Q => ta σ H fun x H1 => ∃ a dx fs, x = .ref a ∧ H1 a = some (.ins C dx fs) ∧ fs.lookup m = none ∧ tk σ H1 fun zs H2 => sp (gV [x] zs) H2 Q E
section
variable {X : Cx} {CX : CXT} {k : Nat} {f C : Addr} {fd : FuncData} {ps ks : List Str} {sp : Sp} {E : XK} {x m : Str} {p pos apos : Pos} {e o : Expr} {kws : List Keyword} {ta : TE} {tk : TA} {g : List Value → List Value → List Value} {gV : List V → List V → List V}
theorem pe_methK {pl : Sem Bool} (he : PE X o ta) (c : Cls X.K C) (hm : Meth X.K C m f) (F : FnOk X.prog X.w X.K X.mg X.base CX k f fd ps sp) (hr : Room k X.A) (hb : KBinds X.K fd ps ks g gV) (hx : Passes CX X E) (hkw : PK X kws tk)
    (hall : (backToKw pos (keywordEach kws X.env)).all (·.1.isSome) = true := by rfl) (hks : (backToKw pos (keywordEach kws X.env)).filterMap (·.1) = ks := by rfl)
    (hpl : ((backTo pos (starEach [] X.env)).any (·.1) || (backToKw pos (keywordEach kws X.env)).any (·.1.isNone)) = false := by rfl)
    (ht : eval (.Call (.Attribute o m apos) [] kws pos) X.env = (do
      let ov ← eval o X.env
      standAt apos.atName
      let (f, first) ← holding [ov] (getMethod ov m pl)
      callWith pos f first (backTo pos (starEach [] X.env)) (backToKw pos (keywordEach kws X.env))) := by rfl) : PE X (.Call (.Attribute o m apos) [] kws pos) (tMethK C m sp gV E ta tk) := by
  refine ⟨fun pins s σ H Q I h => PySem.W.methodCall_KW (pl := pl) (thn (he.run pins s σ H _ I h) fun u s1 ⟨x, H1, I1, rx, a, dx, fs, ex, ea, l, q⟩ => ?_) ht⟩
  subst ex
  obtain rfl : u = Value.ref a := rx
  refine getmeth_ok I1 ea c hm l (PySem.W.callWith_KW0 (first := [.ref a]) (h₀ := X.base) I.ok.mod.kin hm.kp hall (thn (hkw.run pos pins s1 σ H1 _ I1 q) fun ws s2 ⟨zs, H2, I2, rz, q2⟩ => ⟨I2.kIn, ?_⟩) hpl)
  rw [hks]
  exact run_fnk (us := [.ref a]) (vs := [.ref a]) F hr hb hx I2 (.cons rfl .nil) rz q2
/-- f(k = e, ..) -/
theorem pe_callK0 (F : FnOk X.prog X.w X.K X.mg X.base CX k f fd ps sp) (hr : Room k X.A) (hg : Gl X x) (hm : X.mg x = some (.ref f)) (hk : PySem.W.keepIn X.K (.ref f) = true) (hb : KBinds X.K fd ps ks g gV) (hx : Passes CX X E) (hkw : PK X kws tk)
    (hall : (backToKw pos (keywordEach kws X.env)).all (·.1.isSome) = true := by rfl) (hks : (backToKw pos (keywordEach kws X.env)).filterMap (·.1) = ks := by rfl) (hdb : (x == ("__debug__" : Str)) = false := by decide)
    (hpl : ((backTo pos (starEach [] X.env)).any (·.1) || (backToKw pos (keywordEach kws X.env)).any (·.1.isNone)) = false := by rfl) : PE X (.Call (.Name x p) [] kws pos) (fun σ H Q => tk σ H fun zs H2 => sp (gV [] zs) H2 Q E) := by
  refine ⟨fun pins s σ H Q I h => wpAny_Call_Name_kw (ld_glob I hg hm ?_ hdb)⟩
  refine PySem.W.callWith_KW0 (h₀ := X.base) I.ok.mod.kin hk hall (thn (hkw.run pos pins s σ H _ I h) fun ws s2 ⟨zs, H2, I2, rz, q2⟩ => ⟨I2.kIn, ?_⟩) hpl
  rw [hks]
  exact run_fnk (us := []) (vs := []) F hr hb hx I2 .nil rz q2
end
/-! ### o.f as a target -/
def gFld (K : PySem.W.Frag) (to : TE) (f : Str) : TG := fun v σ H Q => to σ H fun x H2 => ∃ (a C dx : Addr) (fs : List (Str × V)), x = .ref a ∧ H2 a = some (.ins C dx fs) ∧ Cls K C ∧ NoAttr K C f ∧ fs.length < 1000 ∧ Q σ (upd H2 a (.ins C dx (putF f v fs)))
theorem pg_fld {X : Cx} {o : Expr} {to : TE} {f : Str} {pos : Pos} (ho : PE X o to) : PG X (.Attribute o f pos) (gFld X.K to f) := by
  refine ⟨fun pins s σ H v u Q I r h => ?_⟩
  rw [PySem.assign_Attribute]
  refine wpAny_bind (wpAny_holding (thn (ho.run pins s σ H _ I h) fun ov s1 ⟨x, H1, I1, r1, a, C, dx, fs, ex, ea, c, n, l, q⟩ => ?_))
  subst ex
  obtain rfl : ov = Value.ref a := r1
  refine wpAny_bind (wpAny_standAt (wpAny_bind (wpAny_holding (setattr_ok I1 ea c n l r fun s3 I3 => ?_))))
  exact wpAny_release ⟨σ, _, I3, q⟩
/-! ### x //= j -/
theorem ip_fdiv {X : Cx} : PIp X .FloorDiv (fun x y H Q => ∃ i j, x = .int i ∧ y = .int j ∧ CDivW i j ∧ Q (.int (i / j)) H) := by
  rintro pins s σ H x y v u Q I rx ry ⟨i, j, rfl, rfl, hc, q⟩
  exact iop_fdivW pins s σ H _ _ v u Q I rx ry ⟨i, j, rfl, rfl, hc, q⟩
/-! ### list.extend(tuple) -/
theorem meets_extend (l : Addr) (items : Array Value) (n : Nat) (b : Addr) (items2 : Array Value) (n2 : Nat) (dd : Option Addr) (sl : Array (Option Value)) (h0 : ¬ (!items.isEmpty && Builtin.List.listTooLong (items.size + items2.size)) = true) (h1 : items.size ≤ sizeLine) (h2 : items.size + items2.size ≤ sizeLine + 1) :
    Meets (Builtin.«list.extend» ⟨[.ref l, .ref b], []⟩) (fun _ R s => s.heap.get? l = some { cls := .type "list", dict := none, data := .seq items n, slots := #[] } ∧ s.heap.get? b = some { cls := .type "tuple", dict := dd, data := .seq items2 n2, slots := sl } ∧
      R (.ok (.ret Value.none)) { s with heap := s.heap.update l (Obj.mapSeq fun x => x ++ items2), toks := s.toks }) :=
  .of_wp fun prog w A R s h => by
    obtain ⟨hp, g, d, tk, os⟩ := s; obtain ⟨hl, hb, h⟩ := h
    have hz' : (items ++ items2).size ≤ sizeLine + 1 := by rw [Array.size_append]; exact h2
    wp_walk using (wpAny_updateSeq hl rfl (hz := h1) (_hz' := hz')), PySem.AutoSeq1.wpAny_loadPart' hl, PySem.AutoSeq1.wpAny_loadPart' hb; exact ⟨_, rfl, h⟩
def rExtT (K : PySem.W.Frag) : V → List V → Hp → VK → Prop := fun x vs H Q => ∃ l b xs zs, x = .ref l ∧ vs = [.ref b] ∧ H l = some (.lst xs) ∧ SqT K H b zs ∧ xs.length + zs.length ≤ sizeLine ∧ Q .non (upd H l (.lst (xs ++ zs)))
theorem mt_extT {X : Cx} : MtM X "list.extend" (rExtT X.K) := by
  rintro pins s σ H x vs v us Q I rx rv ⟨l, b, xs, zs, rfl, rfl, hH, hB, hz, q⟩
  cases rx
  obtain ⟨u, rfl, ru⟩ := rv.one
  cases ru
  obtain ⟨z, its, n, r, hl, e⟩ := I.lstM hH
  obtain ⟨its2, r2, ⟨⟨c2, dd, dt, sl⟩, e2, hc2, n2, hd2⟩, _⟩ := I.tuple hB
  simp only at hc2 hd2
  subst hc2 hd2
  have hl2 := r2.length
  have hs : its.toArray.size + its2.toArray.size ≤ sizeLine := by rw [List.size_toArray, List.size_toArray]; omega
  refine call_meets F.slot_list_extend ⟨_, e, rfl⟩ F.entry_list_extend (F.args_list_extend_2 _ _) (meets_extend l its.toArray n b its2.toArray n2 dd sl (by rw [notLongL hs, Bool.and_false]; exact Bool.false_ne_true) (by rw [List.size_toArray]; omega) (by omega)) ⟨e, e2, ?_⟩
  exact ⟨.non, _, I.lset (its' := its ++ its2) hH e (by simp) (r.append r2) (by rw [List.length_append]; omega), rfl, q⟩
/-! ### enumerate(tuple) -/
theorem meets_enumT (l : Addr) (items : Array Value) (n : Nat) (dct : Option Addr) (sl : Array (Option Value)) :
    Meets (Builtin.«enumerate.__new__» ⟨[.type "enumerate", .ref l], []⟩) (fun _ R s => s.heap.get? l = some { cls := .type "tuple", dict := dct, data := .seq items n, slots := sl } ∧
      R (.ok (.ret (.ref (s.heap.push { cls := .type "tuple_iterator", data := .fields #[.ref l, .int 0 0] }).objs.size)))
        { s with heap := (s.heap.push { cls := .type "tuple_iterator", data := .fields #[.ref l, .int 0 0] }).push { cls := .type "enumerate", data := .fields #[.none, .bool false, .ref s.heap.objs.size, rawInt 0, .none, .none] } }) :=
  .of_wp fun prog w A R s h => by
    obtain ⟨hp, g, d, tk, os⟩ := s; obtain ⟨hl, h⟩ := h
    have hsub := sub_enumerate
    have hT : Heap.IsTuple (Shared.heap ⟨hp, g, d, tk, os⟩) l items := ⟨_, hl, rfl, n, rfl⟩
    wp_walk using PySem.AutoSeq1.wpAny_loadPart' hl
    refine wpAny_stack_any fun st => wpAny_pure ?_
    split
    · rename_i c _ _ _ _ _
      cases (c == Value.type "enumerate") <;> (wp_walk using PySem.AutoSeq1.wpAny_loadPart' hl, wpAny_pyIter_tuple hT; exact ⟨_, rfl, h⟩)
    · wp_walk using PySem.AutoSeq1.wpAny_loadPart' hl, wpAny_pyIter_tuple hT; exact ⟨_, rfl, h⟩
theorem call_enumT {prog : Program} {w : World} {A : Around} {E : Value → Shared → Prop} {s : Shared} {l : Addr} {items : Array Value} {Q : Value → Shared → Prop} (hL : s.heap.IsTuple l items)
    (h : ∀ h', IsEnum h' (s.heap.objs.size + 1) s.heap.objs.size 0 .none → h'.IsTupleIter s.heap.objs.size l 0 → (∀ b o, s.heap.get? b = some o → h'.get? b = some o) → Q (.ref (s.heap.objs.size + 1)) { s with heap := h' }) :
    wpAny (model prog w) A (call (.type "enumerate") [.ref l]) Q E s := by
  obtain ⟨⟨c, dct, dt, sl⟩, hl, hc, n, hd⟩ := hL
  replace hc : c = .type "tuple" := hc
  replace hd : dt = .seq items n := hd
  subst hc hd
  refine callType_new F.called_enumerate (by decide) (F.typeCall_enumerate_1 _) (F.newCall_enumerate_1 _) (fun obj => F.args_object_init_2 obj _) F.entry_enumerate_new (meets_enumT l items n dct sl) ⟨hl, ?_⟩
  generalize hi : ({ cls := .type "tuple_iterator", data := .fields #[.ref l, .int 0 0] } : Obj) = it
  generalize he : ({ cls := .type "enumerate", data := .fields #[.none, .bool false, .ref s.heap.objs.size, rawInt 0, .none, .none] } : Obj) = eo
  have f1 : it.isFreed = false := by rw [← hi]; rfl
  have f2 : eo.isFreed = false := by rw [← he]; rfl
  have hz : (s.heap.push it).objs.size = s.heap.objs.size + 1 := Heap.size_push ..
  show _ ∧ _
  rw [hz]
  have g1 : ((s.heap.push it).push eo).get? (s.heap.objs.size + 1) = some eo := by
    have := Heap.get?_push_size (s.heap.push it) (o := eo) f2
    rwa [hz] at this
  have g2 : ((s.heap.push it).push eo).get? s.heap.objs.size = some it := Heap.get?_push_of_some _ (Heap.get?_push_size _ f1)
  subst hi he
  exact ⟨⟨_, g1, rfl⟩, h _ g1 ⟨_, g2, rfl, rfl⟩ fun b o x => Heap.get?_push_of_some _ (Heap.get?_push_of_some _ x)⟩
/-- the tuple at a as it stands at each turn, each item in a new pair -/
def Iet (K : PySem.W.Frag) (a : Addr) : It :=
  ⟨fun i H => ∃ (xs : List V) (x : V), SqT K H a xs ∧ xs[i]? = some x, fun i H v H' => ∃ T x, v = .ref T ∧ H T = none ∧ H' = upd H T (.tup [.int (i : Nat), x]) ∧ ∀ xs, SqT K H a xs → xs[i]? = some x, fun i H => ∃ xs : List V, SqT K H a xs ∧ xs.length = i⟩
theorem enum_ne {h : Heap} {e it a : Addr} {c : Int} {old : Value} {i : Nat} {items : Array Value} (he : IsEnum h e it c old) (hi : h.IsTupleIter it a i) (ht : h.IsTuple a items) : e ≠ a ∧ a ≠ it := by
  obtain ⟨o, ho, hc, _⟩ := ht
  obtain ⟨o2, ho2, hc2, _⟩ := hi
  refine ⟨fun z => ?_, fun z => ?_⟩
  · have he' : h.get? e = some _ := he
    rw [z, ho] at he'
    cases he'
    exact absurd (Value.type.inj hc) (by decide)
  · rw [z, ho2] at ho
    cases ho
    rw [hc2] at hc
    exact absurd hc (by decide)
theorem turn_enumT {P : Program} {w : World} {K : PySem.W.Frag} {elts : List Expr} {kk : Nat} {tpos : Pos} (a e it : Addr) :
    Turn P w K (.Tuple elts kk tpos) (Iet K a) [e, it] e (fun i h => (∃ old, IsEnum h e it ((i : Nat) : Int) old) ∧ h.IsTupleIter it a i ∧ e ≠ it) where
  mem := by simp
  obj := fun i h st b hb => by
    obtain ⟨⟨old, he⟩, ⟨o, ho, hc, hd⟩, _⟩ := st
    rcases (by simpa using hb : b = e ∨ b = it) with z | z
    · rw [z]; exact ⟨_, he, fun v q => nomatch q⟩
    · rw [z]; exact ⟨o, ho, fun v q => by rw [hd] at q; cases q⟩
  keep := fun i h h' ⟨⟨old, he⟩, hi, hne⟩ k => ⟨⟨old, k e (by simp) _ he⟩, hi.at fun o q => k it (by simp) o q, hne⟩
  item := by
    intro X hP hw hK hc i pins s σ H E I hf st ⟨xs, x, hq, hx⟩
    subst hP hw hK
    obtain ⟨⟨old, he⟩, hit, hne⟩ := st
    obtain ⟨its, rv, p, hz⟩ := I.tuple hq
    have p' : s.heap.IsTuple a its.toArray := p
    obtain ⟨n1, n2⟩ := enum_ne he hit p'
    obtain ⟨u, hu, ru⟩ := rv.get hx
    have hel : e < s.heap.objs.size := Heap.lt_size he
    have hil : it < s.heap.objs.size := by obtain ⟨_, q, _⟩ := hit; exact Heap.lt_size q
    have hlt : i < its.toArray.size := by
      rw [List.size_toArray]
      exact (List.getElem?_eq_some_iff.mp hu).1
    refine wpAny_pyNext_enum_itemD (D := Draws.tuple (prog := X.prog) (w := X.w) (A := X.A.in1) (I.ok.hd hc) it a n2 its.toArray) he ⟨hit, p'⟩ hlt hne (by simp [hne, n1]) fun y h' tk hy ho hst hT hsz hk => ?_
    have ey : y = u := by
      have q : its.toArray[i]? = some y := hy
      rw [List.getElem?_toArray, hu] at q
      exact (Option.some.inj q).symm
    subst ey
    refine ⟨_, rfl, wpAny_letOwnedTupleGo_enum (s := { s with heap := h', toks := tk + 1 }) ho fun h'' he' sb => ?_⟩
    have hT2 : h''.get? s.heap.objs.size = some { cls := .type "tuple", data := .seq #[.int i tk, y] } := (sb.2 _ (Nat.ne_of_gt hel)).trans hT
    have new : ObjOk X.prog X.w (upd H s.heap.objs.size (.tup [.int (i : Nat), x])) h'' s.heap.objs.size (.tup [.int (i : Nat), x]) :=
      ⟨by show 2 ≤ sizeLine; decide, [.int i tk, y], .cons ⟨_, rfl⟩ (.cons ru .nil), ⟨_, hT2, rfl, _, rfl⟩⟩
    have I1 : L2.Inv X pins σ (upd H s.heap.objs.size (.tup [.int (i : Nat), x])) { s with heap := h'', toks := tk + 1 } :=
      I.turnedNew (ch := [e, it]) (fun b ob hb q => (sb.2 b (fun z => hb (by simp [z]))).trans (hk b ob (fun z => hb (by simp [z])) (fun z => hb (by simp [z])) q)) hf (Nat.le_refl _) new
    refine ⟨.ref s.heap.objs.size, _, I1, rfl, ⟨_, x, rfl, I.hok.fresh (Nat.le_refl _), rfl, fun ys hy => by rw [I.tuple_inj hy hq]; exact hx⟩, ⟨⟨y, by rw [show ((i + 1 : Nat) : Int) = (i : Int) + 1 by omega]; exact he'⟩, hst.1.at fun o q => (sb.2 it (Ne.symm hne)).trans q, hne⟩, fun b hb => ?_⟩
    have hb' : b < s.heap.objs.size := by
      rcases (by simpa using hb : b = e ∨ b = it) with z | z
      · rw [z]; exact hel
      · rw [z]; exact hil
    rw [upd_ne (Nat.ne_of_lt hb')]
    exact (hf b hb).1
  done := by
    intro X hP hw hK hc i pins s σ H E I hf st ⟨xs, hq, hx⟩
    subst hP hw hK
    obtain ⟨⟨old, he⟩, hit, hne⟩ := st
    obtain ⟨its, rv, p, hz⟩ := I.tuple hq
    have p' : s.heap.IsTuple a its.toArray := p
    obtain ⟨n1, n2⟩ := enum_ne he hit p'
    obtain ⟨f0, f1, f2, f3, f4, f5⟩ := hf it (by simp)
    have hl := rv.length
    have ei : i = its.toArray.size := by rw [List.size_toArray]; omega
    subst ei
    exact wpAny_pyNext_enum_endD (D := Draws.tuple (prog := X.prog) (w := X.w) (A := X.A.in1) (I.ok.hd hc) it a n2 its.toArray) he ⟨hit, p'⟩ fun h' eb => ⟨rfl, I.turned (t' := s.toks) (fun b o hb q => eb b o hb q) f0 f1 f3 f4 f5⟩
  self := fun A i s Q E st h => let ⟨⟨_, he⟩, _⟩ := st; wpAny_pyIter_enum he h
def iEnumT (K : PySem.W.Frag) (ta : TA) : TI := fun σ H R => ta σ H fun vs H1 => ∃ a xs, vs = [.ref a] ∧ SqT K H1 a xs ∧ R (Iet K a) H1
theorem pi_enumT {X : Cx} {e : Expr} {ta : TA} {p pos tpos : Pos} {elts : List Expr} {kk : Nat} (hg : Gl X "enumerate") (hm : X.mg "enumerate" = none) (ha : PA X [e] ta) (hs : starEach [e] X.env = [(false, eval e X.env)] := by rfl) :
    PI X (.Tuple elts kk tpos) (.Call (.Name "enumerate" p) [e] [] pos) (iEnumT X.K ta) := by
  refine ⟨fun pins s σ H R I h => Call_ (ld_blt I hg hm boot_enumerate (PyProof.Rows.callWith_type1 (thn (ha.run pos pins s σ H _ I h) fun us s1 ⟨vs, H1, I1, r1, a, xs, ex, hq, q⟩ => ?_) hs rfl))⟩
  subst ex
  cases r1 with
  | cons r rr =>
    cases rr
    cases r
    obtain ⟨its, rv, p', hz⟩ := I1.tuple hq
    refine call_enumT (show s1.heap.IsTuple a its.toArray from p') fun h' he hit hk => wpAny_pyIter_enum he ?_
    refine ⟨s1.heap.objs.size + 1, [s1.heap.objs.size + 1, s1.heap.objs.size], _, _, H1, rfl, I1.kept (t' := s1.toks) hk, turn_enumT a (s1.heap.objs.size + 1) s1.heap.objs.size, ⟨⟨.none, he⟩, hit, Nat.succ_ne_self _⟩, fun b hb => ?_, q⟩
    have hle : s1.heap.objs.size ≤ b := by
      rcases (by simpa using hb : b = s1.heap.objs.size + 1 ∨ b = s1.heap.objs.size) with z | z
      · rw [z]; exact Nat.le_add_right _ _
      · rw [z]; exact Nat.le_refl _
    exact I1.fpOk hle (I1.hok.fresh hle)
theorem walk_enumT {K : PySem.W.Frag} {a : Addr} {xs : List V} : L2.Walk (Iet K a) xs.length (fun H => SqT K H a xs) (YPair (fun i => some (.int (i : Nat))) (fun i => xs[i]?)) := by
  refine ⟨fun i _ hi q => ⟨xs, xs[i], q, by simp [hi]⟩, fun _ q => ⟨xs, q, rfl⟩, fun i H v H' _ q ⟨T, x, h1, h2, h3, h4⟩ => ?_⟩
  exact ⟨T, .int (i : Nat), x, h1, h2, h3, rfl, h4 xs q⟩
end K53

set_option Elab.async false
set_option linter.all false
set_option maxRecDepth 100000
set_option maxHeartbeats 0
/-! the head: the top's run in the kernel, its facts -/
namespace K53
open PySem PySem.Spec PyProof.Rows L2
/-! ### what is told of Broken -/
abbrev brA (K : PySem.W.Frag) : Addr := He.ga K "Broken"
abbrev brI (K : PySem.W.Frag) : Addr := He.ma K (brA K) "__init__"
def brCls (K : PySem.W.Frag) (C : Addr) : Bool := match K.lookup C with
  | some ⟨.type "type", _, .cls cd, sl⟩ => (match cd.mro, sl.toList with
    | .ref C' :: bm, [_, _, _, _, some (.builtin n), _] => C' == C && n == "ValueError.__new__" && !cd.hasDel && HandSPX.refsVE bm && cd.hasDict
    | _, _ => false)
  | _ => false
theorem brCls_ok {K : PySem.W.Frag} {C : Addr} (q : brCls K C = true) :
    ∃ nm q N bs bm sn sub ab col dd k0 k1 k2 k3 k5, K.lookup C = some (excClassObj nm q C N bs bm true sn sub ab col dd k0 k1 k2 k3 k5 "ValueError.__new__") ∧ HandSPX.refsVE bm = true := by
  unfold brCls at q
  split at q
  · rename_i dd cd sl ho
    split at q
    · rename_i C' bm k0 k1 k2 k3 n k5 hm hs
      simp only [Bool.and_eq_true, beq_iff_eq, Bool.not_eq_true'] at q
      obtain ⟨⟨⟨⟨rfl, rfl⟩, hdel⟩, ht⟩, hh⟩ := q
      obtain ⟨nm, bs, mro, ns, qn, hd, sn, sub, ab, col, del⟩ := cd
      dsimp only at hm hdel hh
      subst hm hdel hh
      have e : sl = #[k0, k1, k2, k3, some (.builtin "ValueError.__new__"), k5] := by
        obtain ⟨l⟩ := sl
        have : l = _ := hs
        rw [this]
      subst e
      exact ⟨_, _, _, _, _, _, _, _, _, _, _, _, _, _, _, ho, ht⟩
    · cases q
  · cases q
def brFd (K : PySem.W.Frag) : Option FuncData := match K.lookup (brI K) with
  | some ⟨_, _, .func fd, _⟩ => some fd
  | _ => none
def cellB (K : PySem.W.Frag) (cc C : Addr) : Bool := match K.lookup cc with
  | some ⟨_, _, .cell (some (.ref D)), _⟩ => D == C
  | _ => false
def fileB (K : PySem.W.Frag) (c : Addr) : Bool := match K.lookup c with
  | some ⟨_, _, .fields vs, _⟩ => (match vs.toList with
    | _ :: _ :: .str f _ :: _ => decide (f = "/claim/cut.py")
    | _ => false)
  | _ => false
def brFnB (K : PySem.W.Frag) : Bool := match brFd K with
  | some fd => (match fd.closure, fd.code, fd.defaults with
    | [(_, cc)], .ref c, .none => cellB K cc (brA K) && (fileB K c && PySem.W.codeIn K (.ref c) "Broken.__init__")
    | _, _, _ => false)
  | none => false
theorem brFnB_split {K : PySem.W.Frag} {fd : FuncData} (e : brFd K = some fd) (h : brFnB K = true) : ∃ x cc c, fd.closure = [(x, cc)] ∧ fd.code = .ref c ∧ fd.defaults = .none ∧ (cellB K cc (brA K) && (fileB K c && PySem.W.codeIn K (.ref c) "Broken.__init__")) = true := by
  unfold brFnB at h
  rw [e] at h
  dsimp only at h
  split at h
  · rename_i x cc c h1 h2 h3
    exact ⟨x, cc, c, h1, h2, h3, h⟩
  · cases h
abbrev BrV : Type := Option (Str × Str × Arguments × FuncBody × Scope × Addr × List Str × Addr)
def brObs (K : PySem.W.Frag) : BrV := (brFd K).map fun fd => (fd.name, fd.qualname, fd.params, fd.body, fd.scope, fd.globals, fd.closure.map (·.1), fd.builtins)
def brVal : BrV := some ("__init__", "Broken.__init__", defArgs s_Broken_init, .stmts (defBody s_Broken_init), defScope s_Broken_init, mainGlobals, ["__class__"], builtinsNs)
def oV (a b : Option Value) : Bool := decide (a = b)
def brB (K : PySem.W.Frag) : Bool :=
  brCls K (brA K) && (He.eqO (PySem.W.findIn K (.ref (brA K)) "__setattr__") (some (some (.builtin "object.__setattr__"))) && (He.eqO (PySem.W.findIn K (.ref (brA K)) "__getattribute__") (some (some (.builtin "BaseException.__getattribute__"))) &&
  (He.eqO (PySem.W.findIn K (.ref (brA K)) "__getattr__") (some none) && (He.eqO (PySem.W.findIn K (.ref (brA K)) "at") (some none) && (He.eqO (PySem.W.findIn K (.ref (brA K)) "__init__") (some (some (.ref (brI K)))) &&
  (oV (PySem.W.typeIn K (.ref (brI K))) (some (.type "function")) && (PySem.W.keepIn K (.ref (brA K)) && (decide (PySem.W.subIn K (.ref (brA K)) (.type "BaseException") = some true) && (decide (PySem.W.subIn K (.ref (brA K)) (.type "ValueError") = some true) &&
  (oV (PySem.W.typeIn K (.ref (brA K))) (some (.type "type")) && (PySem.W.hasDictIn K (brA K) && (decide (PySem.W.exmOne K (.ref (brA K)) (.ref (brA K)) = some true) && (decide (PySem.W.mroIn K (brA K) (.ref (brA K)) = some true) &&
  (He.eqO (PySem.W.ks_superIn K (brA K) (brA K) "__init__") (some (some (.builtin "ValueError.__init__"))) && (He.eqO (PySem.W.nsIn K cStatics "thirdparty.any") (some none) && brFnB K)))))))))))))))
theorem br_of {K : PySem.W.Frag} {mg : Str → Option Value} (g : mg "Broken" = some (.ref (brA K))) (gs : mg "super" = none) (h : brB K = true) (hv : brObs K = brVal) : ∃ fI cc cda, BrTxt K mg (brA K) fI cc cda := by
  obtain ⟨h1, h⟩ := He.ba h
  obtain ⟨h2, h⟩ := He.ba h
  obtain ⟨h3, h⟩ := He.ba h
  obtain ⟨h4, h⟩ := He.ba h
  obtain ⟨h5, h⟩ := He.ba h
  obtain ⟨h6, h⟩ := He.ba h
  obtain ⟨h7, h⟩ := He.ba h
  obtain ⟨h8, h⟩ := He.ba h
  obtain ⟨h9, h⟩ := He.ba h
  obtain ⟨h10, h⟩ := He.ba h
  obtain ⟨h11, h⟩ := He.ba h
  obtain ⟨h12, h⟩ := He.ba h
  obtain ⟨h13, h⟩ := He.ba h
  obtain ⟨h14, h⟩ := He.ba h
  obtain ⟨h15, h⟩ := He.ba h
  obtain ⟨h16, h⟩ := He.ba h
  unfold brObs at hv
  cases e : brFd K with
  | none => unfold brFnB at h; rw [e] at h; cases h
  | some fd =>
    obtain ⟨x, cc, c, hc1, hc2, hc3, h⟩ := brFnB_split e h
    rw [e] at hv
    have lk : ∃ oc od osl, K.lookup (brI K) = some ⟨oc, od, .func fd, osl⟩ := by
      unfold brFd at e
      split at e
      · rename_i oc od fd' osl ho
        cases e
        exact ⟨_, _, _, ho⟩
      · cases e
    obtain ⟨oc, od, osl, lk⟩ := lk
    obtain ⟨n1, n2, n3, n4, n5, n6, n7, n8, n9, n10, n11, n12, n13, n14, n15⟩ := fd
    have e2 : (some (n1, n2, n3, n4, n5, n6, n7.map (·.1), n15) : BrV) = (some ("__init__", "Broken.__init__", defArgs s_Broken_init, .stmts (defBody s_Broken_init), defScope s_Broken_init, mainGlobals, ["__class__"], builtinsNs) : BrV) := hv
    simp only [Option.some.injEq, Prod.mk.injEq] at e2
    obtain ⟨q1, q2, q3, q4, q5, q6, q7, q8⟩ := e2
    dsimp only at hc1 hc2 hc3
    subst hc1 hc2 hc3
    obtain ⟨c1, h⟩ := He.ba h
    obtain ⟨c2, c3⟩ := He.ba h
    have q7' : x = "__class__" := by simpa using q7
    subst q1 q2 q3 q4 q5 q6 q7' q8
    refine ⟨brI K, cc, c, ⟨g, gs, brCls_ok h1, He.eqO_ok h2, He.eqO_ok h3, He.eqO_ok h4, He.eqO_ok h5, He.eqO_ok h6, of_decide_eq_true h7, h8, of_decide_eq_true h9, of_decide_eq_true h10, of_decide_eq_true h11, h12, of_decide_eq_true h13, of_decide_eq_true h14, He.eqO_ok h15, He.eqO_ok h16, ⟨oc, od, _, _, _, _, _, _, lk, c3⟩, ?_, ?_⟩⟩
    · unfold fileB at c2
      split at c2
      · rename_i a1 a2 vs a3 ho
        split at c2
        · rename_i b1 b2 f tf r hf
          rw [of_decide_eq_true c2] at hf
          have e3 : vs[2]? = some (.str "/claim/cut.py" tf) := by
            rw [← Array.getElem?_toList, hf] <;> rfl
          exact ⟨_, _, _, _, _, ho, e3⟩
        · cases c2
      · cases c2
    · unfold cellB at c1
      split at c1
      · rename_i a1 a2 D a3 ho
        rw [beq_iff_eq.mp c1] at ho
        exact ⟨_, _, _, ho⟩
      · cases c1
/-! ### the hook -/
abbrev R : PySem.W.OpenRow := PySem.W.OpenLaw.row PySem.Challenge.rw_outsoonest_k53_whole_journals_cut_anywhe
abbrev Al : Type := Bool × BrV × He.AlD
def obK (K : PySem.W.Frag) : Al := (brB K, brObs K, He.obsD fa fn K)
def fr5 (g : Addr → Option Obj) : PySem.W.Frag := He.frG g (cStatics :: He.asD g 5)
def hk : PySem.W.Hook where
  α := Al
  obs := fun s => obK (fr5 s.heap.get?)
  val := fun _ => (true, brVal, He.valD fn)
  says := fun _ h => ∃ K : PySem.W.Frag, K.In h ∧ obK K = (true, brVal, He.valD fn)
  of := fun _ _ e => ⟨_, He.frG_in, e⟩
  keeps := fun _ _ _ ⟨K, hK, c⟩ k => ⟨K, PySem.W.Frag.In.keeps hK k, c⟩
def ob (s : PySem.W.SharedT) : Al := obK (fr5 (HandSHeadRun.getT s))
theorem ob_eq (s : PySem.W.SharedT) : ob s = hk.obs s.abs := by
  have e : HandSHeadRun.getT s = s.abs.heap.get? := funext (HandSHeadRun.getT_eq s)
  show obK (fr5 (HandSHeadRun.getT s)) = obK (fr5 s.abs.heap.get?)
  rw [e]
theorem run (w : World) : HandSHeadRun.RunEq R (PySem.W.view R.prog [60]) hk ob 6000 (lo0 ++ lo1) w := by
  intro os
  kernel_rfl
theorem brProg : BrProg R.prog := ⟨by kernel_rfl, by kernel_rfl⟩
theorem tx_of {K : PySem.W.Frag} {h : Heap} {mg : Str → Option Value} (X : K.In h) (G : h.Ns mainGlobals mg) (c : obK K = (true, brVal, He.valD fn)) : Tx R.prog K mg := by
  have c1 : brB K = true := congrArg (fun z : Al => z.1) c
  have c2 : brObs K = brVal := congrArg (fun z : Al => z.2.1) c
  have c3 : He.SaysD fa fn K := congrArg (fun z : Al => z.2.2) c
  have gB : mg "Broken" = some (.ref (brA K)) := He.glo_ok X G (c3.fact 4 (f := .glo "Broken") rfl)
  have gS : mg "super" = none := He.free_ok X G (c3.fact 68 (f := .free "super") (by rfl))
  exact ⟨⟨h, X, G⟩, c3, br_of gB gS c1 c2, brProg⟩
end K53

set_option linter.all false
set_option maxRecDepth 100000
set_option maxHeartbeats 4000000
/-! the mathematics of forms: what is written, what stands whole, what is cut -/
namespace K53
open PySem
/-! ### digits -/
def figs (n : Nat) : List Nat := if h : n = 0 then [] else figs (n / 256) ++ [n % 256]
termination_by n
decreasing_by omega
theorem figs_zero : figs 0 = [] := by unfold figs; simp
theorem figs_pos {n : Nat} (h : n ≠ 0) : figs n = figs (n / 256) ++ [n % 256] := by
  rw [figs]
  simp [h]
def val (l : List Nat) : Nat := l.foldl (fun a d => a * 256 + d) 0
theorem val_snoc (l : List Nat) (x : Nat) : val (l ++ [x]) = val l * 256 + x := by simp [val, List.foldl_append]
theorem figs_val (n : Nat) : val (figs n) = n := by
  induction n using Nat.strongRecOn with
  | _ n ih =>
    by_cases h : n = 0
    · subst h; rw [figs_zero]; rfl
    · rw [figs_pos h, val_snoc, ih (n / 256) (by omega)]
      omega
theorem figs_lt (n : Nat) : ∀ x ∈ figs n, x < 256 := by
  induction n using Nat.strongRecOn with
  | _ n ih =>
    by_cases h : n = 0
    · subst h; rw [figs_zero]; intro x hx; cases hx
    · rw [figs_pos h]
      intro x hx
      rcases List.mem_append.mp hx with hx | hx
      · exact ih (n / 256) (by omega) x hx
      · rw [List.mem_singleton.mp hx]; omega
theorem figs_head {n : Nat} (h : n ≠ 0) : ∃ x r, figs n = x :: r ∧ 1 ≤ x ∧ x < 256 := by
  induction n using Nat.strongRecOn with
  | _ n ih =>
    by_cases h2 : n / 256 = 0
    · rw [figs_pos h, h2, figs_zero]
      exact ⟨n % 256, [], rfl, by omega, by omega⟩
    · obtain ⟨x, r, e, h3⟩ := ih (n / 256) (by omega) h2
      rw [figs_pos h, e]
      exact ⟨x, r ++ [n % 256], rfl, h3⟩
theorem figs_len {k : Nat} : ∀ {n : Nat}, n < 256 ^ k → (figs n).length ≤ k := by
  induction k with
  | zero =>
    intro n h
    have : n = 0 := by simpa using h
    subst this; rw [figs_zero]; exact Nat.le_refl _
  | succ k ih =>
    intro n h
    by_cases h2 : n = 0
    · subst h2; rw [figs_zero]; exact Nat.zero_le _
    · rw [figs_pos h2, List.length_append]
      have : n / 256 < 256 ^ k := by
        rw [Nat.div_lt_iff_lt_mul (by decide)]
        rw [Nat.pow_succ] at h
        exact h
      have := ih this
      simp
      omega
/-- a number below 4096: at most two digits, the first of two at most 15 -/
theorem figs_parts {n : Nat} (h : n < 4096) : (figs n).length ≤ 2 ∧ ∀ x r, figs n = x :: r → x ≤ if (figs n).length = 2 then 15 else 255 := by
  have h1 := figs_len (k := 2) (n := n) (by omega)
  refine ⟨h1, fun x r e => ?_⟩
  have hx := figs_lt n x (by rw [e]; exact List.mem_cons_self)
  split
  · rename_i h2
    have hn : n ≠ 0 := fun z => by rw [z, figs_zero] at e; cases e
    have h3 : (figs (n / 256)).length = 1 := by
      rw [figs_pos hn, List.length_append] at h2
      simpa using h2
    have hn2 : n / 256 ≠ 0 := fun z => by rw [z, figs_zero] at h3; cases h3
    have h4 : n / 256 / 256 = 0 := by omega
    rw [figs_pos hn, figs_pos hn2, h4, figs_zero] at e
    have e1 : n / 256 % 256 = x := (List.cons.inj e).1
    omega
  · omega
/-- the form of a number: how many octets, then these -/
def numF (n : Nat) : List Nat := (figs n).length :: figs n
theorem numF_lt {n : Nat} (h : n < 256 ^ 8) : ∀ x ∈ numF n, x < 256 := fun x hx => by
  rcases List.mem_cons.mp hx with e | e
  · have := figs_len h
    omega
  · exact figs_lt n x e
/-! ### signs -/
def sgS : Str := "abcdefghijklmnopqrstuvwxyz0123456789-_ "
def sg : List Nat := sgS.cps.toList
theorem sg_len : sg.length = 39 := by decide +kernel
def idx (c : Nat) : Nat := sg.idxOf c
theorem idx_lt {c : Nat} (h : sg.contains c = true) : idx c < 39 := by
  rw [← sg_len]
  exact List.idxOf_lt_length_of_mem (by simpa using h)
theorem idx_get {c : Nat} (h : sg.contains c = true) : sg[idx c]? = some c := by
  have hm : c ∈ sg := by simpa using h
  have hl := List.idxOf_lt_length_of_mem hm
  unfold idx
  rw [List.getElem?_eq_getElem hl, List.getElem_idxOf hl]
/-! ### forms -/
mutual
/-- a thing that the journals of the law hold, at most so deep -/
def okD : PyData → Nat → Bool
  | .none, _ => true
  | .int i, _ => decide (i.natAbs < 256 ^ 8)
  | .str s, _ => decide (s.length ≤ 20) && s.cps.toList.all fun c => sg.contains c
  | .tuple _, 0 => false
  | .tuple l, n + 1 => decide (l.length ≤ 20) && okAll l n
  | .bool _, _ => false
  | .list _, _ => false
  | .dict _, _ => false
def okAll : List PyData → Nat → Bool
  | [], _ => true
  | d :: ds, n => okD d n && okAll ds n
end
mutual
def form : PyData → List Nat
  | .none => [0]
  | .int i => if 0 ≤ i then 1 :: numF i.toNat else 2 :: numF (-1 - i).toNat
  | .str s => 3 :: (numF s.length ++ s.cps.toList.map idx)
  | .tuple l => 4 :: (numF l.length ++ formAll l)
  | .bool _ => []
  | .list _ => []
  | .dict _ => []
def formAll : List PyData → List Nat
  | [] => []
  | d :: ds => form d ++ formAll ds
end
theorem formAll_append : ∀ (l m : List PyData), formAll (l ++ m) = formAll l ++ formAll m
  | [], m => by simp [formAll]
  | d :: l, m => by simp [formAll, formAll_append l m]
theorem formAll_snoc (l : List PyData) (d : PyData) : formAll (l ++ [d]) = formAll l ++ form d := by rw [formAll_append]; simp [formAll]
theorem okAll_mem : ∀ {l : List PyData} {n : Nat}, okAll l n = true → ∀ d ∈ l, okD d n = true
  | [], _, _, _, h => by cases h
  | x :: l, n, h, d, hd => by
    have h' : okD x n = true ∧ okAll l n = true := by simpa [okAll] using h
    rcases List.mem_cons.mp hd with e | e
    · rw [e]; exact h'.1
    · exact okAll_mem h'.2 d e
theorem form_pos {d : PyData} {n : Nat} (h : okD d n = true) : ∃ k r, form d = k :: r := by
  cases d with
  | none => exact ⟨_, _, rfl⟩
  | int i => unfold form; split <;> exact ⟨_, _, rfl⟩
  | str s => exact ⟨_, _, by unfold form; rfl⟩
  | tuple l => exact ⟨_, _, by unfold form; rfl⟩
  | bool _ => simp [okD] at h
  | list _ => simp [okD] at h
  | dict _ => simp [okD] at h
theorem numF_len {n k : Nat} (h : n < 256 ^ k) : (numF n).length ≤ k + 1 := by
  show (figs n).length + 1 ≤ k + 1
  have := figs_len h
  omega
mutual
theorem form_ok : ∀ (d : PyData) (n : Nat), okD d n = true → (form d).length ≤ 40 * 25 ^ n ∧ ∀ x ∈ form d, x < 256
  | .none, n, _ => by
    have : 1 ≤ 25 ^ n := Nat.one_le_pow n 25 (by decide)
    exact ⟨by simp [form]; omega, by simp [form]⟩
  | .int i, n, h => by
    have h' : i.natAbs < 256 ^ 8 := by simpa [okD] using h
    have : 1 ≤ 25 ^ n := Nat.one_le_pow n 25 (by decide)
    unfold form
    split
    · have h2 : i.toNat < 256 ^ 8 := by omega
      have h3 := numF_len h2
      refine ⟨by simp; omega, fun x hx => ?_⟩
      rcases List.mem_cons.mp hx with e | e
      · omega
      · exact numF_lt h2 x e
    · have h2 : (-1 - i).toNat < 256 ^ 8 := by omega
      have h3 := numF_len h2
      refine ⟨by simp; omega, fun x hx => ?_⟩
      rcases List.mem_cons.mp hx with e | e
      · omega
      · exact numF_lt h2 x e
  | .str s, n, h => by
    have h' : s.length ≤ 20 ∧ ∀ c ∈ s.cps.toList, sg.contains c = true := by
      simpa only [okD, Bool.and_eq_true, decide_eq_true_eq, List.all_eq_true] using h
    have h1 : s.cps.toList.length = s.length := by
      obtain ⟨a⟩ := s
      simp [Str.length]
    have : 1 ≤ 25 ^ n := Nat.one_le_pow n 25 (by decide)
    have h3 := numF_len (n := s.length) (k := 1) (by omega)
    unfold form
    refine ⟨?_, fun x hx => ?_⟩
    · rw [List.length_cons, List.length_append, List.length_map, h1]
      omega
    · rcases List.mem_cons.mp hx with e | e
      · omega
      · rcases List.mem_append.mp e with e | e
        · exact numF_lt (by omega) x e
        · obtain ⟨c, hc, rfl⟩ := List.mem_map.mp e
          have := idx_lt (h'.2 c hc)
          omega
  | .tuple _, 0, h => by simp [okD] at h
  | .tuple l, n + 1, h => by
    have h' : l.length ≤ 20 ∧ okAll l n = true := by simpa [okD] using h
    obtain ⟨a1, a2⟩ := formAll_ok l n h'.2
    have h3 := numF_len (n := l.length) (k := 1) (by omega)
    have : 1 ≤ 25 ^ n := Nat.one_le_pow n 25 (by decide)
    unfold form
    refine ⟨?_, fun x hx => ?_⟩
    · rw [List.length_cons, List.length_append]
      have h4 : l.length * (40 * 25 ^ n) ≤ 20 * (40 * 25 ^ n) := Nat.mul_le_mul_right _ h'.1
      rw [Nat.pow_succ]
      omega
    · rcases List.mem_cons.mp hx with e | e
      · omega
      · rcases List.mem_append.mp e with e | e
        · exact numF_lt (by omega) x e
        · exact a2 x e
  | .bool _, _, h => by simp [okD] at h
  | .list _, _, h => by simp [okD] at h
  | .dict _, _, h => by simp [okD] at h
theorem formAll_ok : ∀ (l : List PyData) (n : Nat), okAll l n = true → (formAll l).length ≤ l.length * (40 * 25 ^ n) ∧ ∀ x ∈ formAll l, x < 256
  | [], _, _ => ⟨by simp [formAll], by simp [formAll]⟩
  | d :: l, n, h => by
    have h' : okD d n = true ∧ okAll l n = true := by simpa [okAll] using h
    obtain ⟨a1, a2⟩ := form_ok d n h'.1
    obtain ⟨b1, b2⟩ := formAll_ok l n h'.2
    unfold formAll
    refine ⟨?_, fun x hx => ?_⟩
    · rw [List.length_append, List.length_cons, Nat.succ_mul]
      omega
    · rcases List.mem_append.mp hx with e | e
      · exact a2 x e
      · exact b2 x e
end
/-! ### what is read: whole (b), or cut at the octets' end -/
/-- from at on the octets go as ex: ex stands whole, or the octets end within it -/
def Ag (os : List Nat) (at_ : Nat) (ex : List Nat) (b : Bool) : Prop := at_ ≤ os.length ∧ if b = true then ∃ tl, os.drop at_ = ex ++ tl else ∃ tl, tl ≠ [] ∧ ex = os.drop at_ ++ tl
theorem Ag.le {os : List Nat} {a : Nat} {ex : List Nat} {b : Bool} (h : Ag os a ex b) : a ≤ os.length := h.1
theorem Ag.nil {os : List Nat} {a : Nat} (h : a ≤ os.length) : Ag os a [] true := ⟨h, _, rfl⟩
theorem Ag.nil_true {os : List Nat} {a : Nat} {b : Bool} (h : Ag os a [] b) : b = true := by
  cases b with
  | true => rfl
  | false =>
    obtain ⟨_, tl, h1, h2⟩ := h
    have := congrArg List.length h2
    rw [List.length_append] at this
    have h3 : tl.length = 0 := by simp at this; omega
    exact absurd (List.eq_nil_of_length_eq_zero h3) h1
/-- a form of two parts -/
theorem Ag.split {os : List Nat} {a : Nat} {e1 e2 : List Nat} {b : Bool} (h : Ag os a (e1 ++ e2) b) : ∃ b1, Ag os a e1 b1 ∧ (b1 = true → Ag os (a + e1.length) e2 b) ∧ (b1 = false → b = false) := by
  obtain ⟨hl, h⟩ := h
  cases b with
  | true =>
    obtain ⟨tl, e⟩ := h
    refine ⟨true, ⟨hl, e2 ++ tl, by rw [e, List.append_assoc]⟩, fun _ => ⟨?_, tl, ?_⟩, fun z => by cases z⟩
    · have := congrArg List.length e
      rw [List.length_drop, List.length_append, List.length_append] at this
      omega
    · rw [← List.drop_drop, e, List.append_assoc, List.drop_left]
  | false =>
    obtain ⟨tl, ne, e⟩ := h
    by_cases hc : (os.drop a).length < e1.length
    · refine ⟨false, ⟨hl, e1.drop (os.drop a).length, ?_, ?_⟩, fun z => (by cases z), fun _ => rfl⟩
      · intro z
        have := congrArg List.length z
        rw [List.length_drop, List.length_nil] at this
        omega
      · have h1 : os.drop a = e1.take (os.drop a).length := by
          have := congrArg (List.take (os.drop a).length) e
          rw [List.take_append_of_le_length (by omega), List.take_left] at this
          exact this.symm
        conv => lhs; rw [← List.take_append_drop (os.drop a).length e1]
        rw [← h1]
    · have h1 : e1 = (os.drop a).take e1.length := by
        have := congrArg (List.take e1.length) e
        rw [List.take_left, List.take_append_of_le_length (by omega)] at this
        exact this
      refine ⟨true, ⟨hl, (os.drop a).drop e1.length, ?_⟩, fun _ => ⟨?_, tl, ne, ?_⟩, fun z => by cases z⟩
      · conv => lhs; rw [← List.take_append_drop e1.length (os.drop a)]
        rw [← h1]
      · rw [List.length_drop] at hc; omega
      · have := congrArg (List.drop e1.length) e
        rw [List.drop_left, List.drop_append_of_le_length (by omega), List.drop_drop] at this
        exact this
/-- the next octet -/
theorem Ag.cons {os : List Nat} {a x : Nat} {ex : List Nat} {b : Bool} (h : Ag os a (x :: ex) b) : (os[a]? = some x ∧ Ag os (a + 1) ex b) ∨ (os.length ≤ a ∧ b = false) := by
  obtain ⟨b1, h1, h2, h3⟩ := Ag.split (e1 := [x]) (e2 := ex) h
  cases b1 with
  | true =>
    refine .inl ⟨?_, h2 rfl⟩
    obtain ⟨_, tl, e⟩ := h1
    have := congrArg (fun l => l[0]?) e
    simpa using this
  | false =>
    refine .inr ⟨?_, h3 rfl⟩
    obtain ⟨_, tl, ne, e⟩ := h1
    cases q : os.drop a with
    | nil => exact List.drop_eq_nil_iff.mp q
    | cons y r =>
      rw [q] at e
      have := congrArg List.length e
      simp only [List.length_append, List.length_cons, List.length_nil] at this
      have h5 : tl.length = 0 := by omega
      exact absurd (List.eq_nil_of_length_eq_zero h5) ne
end K53

set_option Elab.async false
set_option linter.all false
set_option maxRecDepth 100000
set_option maxHeartbeats 4000000
/-! data in the heap, what stays, small helpers -/
namespace K53
open PySem PySem.Spec PyProof.Rows L2
abbrev nts (l : List Nat) : List V := l.map fun (x : Nat) => V.int (x : Int)
theorem nts_get {l : List Nat} {i : Nat} {x : Nat} (h : l[i]? = some x) : (nts l)[i]? = some (.int (x : Int)) := by
  rw [List.getElem?_map, h]; rfl
theorem nts_len (l : List Nat) : (nts l).length = l.length := List.length_map ..
/-! ### data: none, nts, texts, tuples -/
mutual
inductive Rp (H : Hp) : V → PyData → Prop
  | non : Rp H .non .none
  | int (i : Int) : Rp H (.int i) (.int i)
  | str (x : Str) : Rp H (.str x) (.str x)
  | tup {a : Addr} {xs : List V} {ds : List PyData} : H a = some (.tup xs) → RpAll H xs ds → Rp H (.ref a) (.tuple ds)
inductive RpAll (H : Hp) : List V → List PyData → Prop
  | nil : RpAll H [] []
  | cons {v : V} {vs : List V} {d : PyData} {ds : List PyData} : Rp H v d → RpAll H vs ds → RpAll H (v :: vs) (d :: ds)
end
/-- tuples stay -/
def TS (H H' : Hp) : Prop := ∀ a xs, H a = some (.tup xs) → H' a = some (.tup xs)
theorem TS.refl (H : Hp) : TS H H := fun _ _ h => h
theorem TS.trans {H H1 H2 : Hp} (a : TS H H1) (b : TS H1 H2) : TS H H2 := fun c xs h => b c xs (a c xs h)
theorem same_ts {H H' : Hp} (e : Same H H') : TS H H' := fun a xs h => e a _ h
theorem same_upd {H : Hp} {p : Addr} {o : HO} (h : H p = none) : Same H (upd H p o) := fun b u e => by rw [upd_ne (ne_of_none e h)]; exact e
mutual
theorem Rp.mono {H H' : Hp} (t : TS H H') : ∀ (d : PyData) (v : V), Rp H v d → Rp H' v d
  | .none, _, h => by cases h; exact .non
  | .int i, _, h => by cases h; exact .int i
  | .str x, _, h => by cases h; exact .str x
  | .tuple ds, _, h => by
    cases h with
    | tup e r => exact .tup (t _ _ e) (RpAll.mono t ds _ r)
  | .bool _, _, h => by cases h
  | .list _, _, h => by cases h
  | .dict _, _, h => by cases h
theorem RpAll.mono {H H' : Hp} (t : TS H H') : ∀ (ds : List PyData) (vs : List V), RpAll H vs ds → RpAll H' vs ds
  | [], _, h => by cases h; exact .nil
  | d :: ds, _, h => by
    cases h with
    | cons h1 h2 => exact .cons (Rp.mono t d _ h1) (RpAll.mono t ds _ h2)
end
theorem Rp.up {H H' : Hp} {v : V} {d : PyData} (h : Rp H v d) (t : TS H H') : Rp H' v d := Rp.mono t d v h
theorem RpAll.up {H H' : Hp} {v : List V} {d : List PyData} (h : RpAll H v d) (t : TS H H') : RpAll H' v d := RpAll.mono t d v h
theorem RpAll.len {H : Hp} : ∀ {vs : List V} {ds : List PyData}, RpAll H vs ds → vs.length = ds.length
  | _, _, .nil => rfl
  | _, _, .cons _ r => congrArg Nat.succ r.len
theorem RpAll.get {H : Hp} : ∀ {vs : List V} {ds : List PyData} {i : Nat} {v : V}, RpAll H vs ds → vs[i]? = some v → ∃ d, ds[i]? = some d ∧ Rp H v d
  | _, _, _, _, .nil, e => by simp at e
  | _, _, 0, _, .cons h _, e => by simp at e; subst e; exact ⟨_, rfl, h⟩
  | _, _, i + 1, _, .cons _ r, e => by
    obtain ⟨d, h1, h2⟩ := r.get (i := i) (by simpa using e)
    exact ⟨d, by simpa using h1, h2⟩
theorem RpAll.get' {H : Hp} : ∀ {vs : List V} {ds : List PyData} {i : Nat} {d : PyData}, RpAll H vs ds → ds[i]? = some d → ∃ v, vs[i]? = some v ∧ Rp H v d
  | _, _, _, _, .nil, e => by simp at e
  | _, _, 0, _, .cons h _, e => by simp at e; subst e; exact ⟨_, rfl, h⟩
  | _, _, i + 1, _, .cons _ r, e => by
    obtain ⟨d, h1, h2⟩ := r.get' (i := i) (by simpa using e)
    exact ⟨d, by simpa using h1, h2⟩
theorem RpAll.app {H : Hp} : ∀ {vs ws : List V} {ds es : List PyData}, RpAll H vs ds → RpAll H ws es → RpAll H (vs ++ ws) (ds ++ es)
  | _, _, _, _, .nil, r => r
  | _, _, _, _, .cons h q, r => .cons h (q.app r)
theorem RpAll.one {H : Hp} {v : V} {d : PyData} (h : Rp H v d) : RpAll H [v] [d] := .cons h .nil
theorem RpAll.tail {H : Hp} {vs : List V} {ds : List PyData} (h : RpAll H vs ds) (n : Nat) : RpAll H (vs.drop n) (ds.drop n) := by
  induction n generalizing vs ds with
  | zero => exact h
  | succ n ih =>
    cases h with
    | nil => exact .nil
    | cons _ r => exact ih r
theorem RpAll.head {H : Hp} {vs : List V} {ds : List PyData} (h : RpAll H vs ds) (n : Nat) : RpAll H (vs.take n) (ds.take n) := by
  induction n generalizing vs ds with
  | zero => exact .nil
  | succ n ih =>
    cases h with
    | nil => exact .nil
    | cons a r => exact .cons a (ih r)
theorem RpAll.nts {H : Hp} : ∀ (l : List Nat), RpAll H (nts l) (l.map fun (x : Nat) => PyData.int (x : Int))
  | [] => .nil
  | x :: l => .cons (.int _) (RpAll.nts l)
mutual
theorem Rp.dp {K : PySem.W.Frag} {H : Hp} : ∀ (d : PyData) (v : V), Rp H v d → Dp K H v d
  | .none, _, h => by cases h; exact .non
  | .int i, _, h => by cases h; exact .int i
  | .str x, _, h => by cases h; exact .str x
  | .tuple ds, _, h => by
    cases h with
    | tup e r => exact .tup (SqT.of e) (RpAll.dp ds _ r)
  | .bool _, _, h => by cases h
  | .list _, _, h => by cases h
  | .dict _, _, h => by cases h
theorem RpAll.dp {K : PySem.W.Frag} {H : Hp} : ∀ (ds : List PyData) (vs : List V), RpAll H vs ds → DpAll K H vs ds
  | [], _, h => by cases h; exact .nil
  | d :: ds, _, h => by
    cases h with
    | cons h1 h2 => exact .cons (Rp.dp d _ h1) (RpAll.dp ds _ h2)
end
/-- a list or a tuple of these values -/
def Sq (H : Hp) (a : Addr) (xs : List V) : Prop := H a = some (.lst xs) ∨ H a = some (.tup xs)
theorem Sq.up {H H' : Hp} {a : Addr} {xs : List V} (h : Sq H a xs) (s : Same H H') : Sq H' a xs := h.imp (s _ _) (s _ _)
/-- data, or a list of data in a tuple's place -/
def Rq (H : Hp) (v : V) (d : PyData) : Prop := Rp H v d ∨ ∃ a xs ds, v = .ref a ∧ d = .tuple ds ∧ H a = some (.lst xs) ∧ RpAll H xs ds
theorem Rq.up {H H' : Hp} {v : V} {d : PyData} (h : Rq H v d) (s : Same H H') : Rq H' v d :=
  h.imp (fun r => r.up (same_ts s)) fun ⟨a, xs, ds, e1, e2, e3, r⟩ => ⟨a, xs, ds, e1, e2, s _ _ e3, r.up (same_ts s)⟩
theorem Rq.seq {H : Hp} {v : V} {ds : List PyData} (h : Rq H v (.tuple ds)) : ∃ a xs, v = .ref a ∧ Sq H a xs ∧ RpAll H xs ds := by
  rcases h with h | ⟨a, xs, ds', e1, e2, e3, r⟩
  · cases h with
    | tup e r => exact ⟨_, _, rfl, .inr e, r⟩
  · cases e2
    exact ⟨a, xs, e1, .inl e3, r⟩
/-! ### kinds of values -/
inductive Smp (H : Hp) : V → Prop
  | non : Smp H .non
  | int (i : Int) : Smp H (.int i)
  | str (x : Str) : Smp H (.str x)
  | seq {a : Addr} {xs : List V} : Sq H a xs → Smp H (.ref a)
theorem Rp.smp {H : Hp} {v : V} {d : PyData} (h : Rp H v d) : Smp H v := by
  cases h with
  | non => exact .non
  | int i => exact .int i
  | str x => exact .str x
  | tup e _ => exact .seq (.inr e)
theorem Rq.smp {H : Hp} {v : V} {d : PyData} (h : Rq H v d) : Smp H v := by
  rcases h with h | ⟨a, xs, ds, rfl, _, e, _⟩
  · exact h.smp
  · exact .seq (.inl e)
def isI : V → Bool | .int _ => true | _ => false
def isS : V → Bool | .str _ => true | _ => false
def isR : V → Bool | .ref _ => true | _ => false
def isN : V → Bool | .int i => decide (0 ≤ i) | _ => false
def isB (m : Int) : V → Bool | .int i => decide (0 ≤ i) && decide (i < m) | _ => false
theorem Smp.isi {K : PySem.W.Frag} {H : Hp} {v : V} (h : Smp H v) : ∃ t, (∀ H', Same H H' → TyX K H' v t) ∧ PySem.W.kitOne K t (.type "int") = some (isI v) ∧ PySem.W.kitOne K t (.type "bool") = some false ∧ PySem.W.kitOne K t (.type "str") = some (isS v) ∧
    PySem.W.kitAny K t [.type "list", .type "tuple"] = some (isR v) := by
  have any : ∀ (n : String) (b c : Bool), kitB n "list" = some b → kitB n "tuple" = some c → PySem.W.kitAny K (.type n) [.type "list", .type "tuple"] = some (b || c) := fun n b c h1 h2 =>
    kitAny_cons (kit_ty h1) (fun e => by subst e; exact kitAny_cons (kit_ty h2) (fun e => by subst e; exact kitAny_nil) (fun e => by subst e; rfl)) (fun e => by subst e; rfl)
  cases h with
  | non => exact ⟨.type "NoneType", fun _ _ => .base .non, kit_ty (show kitB "NoneType" "int" = some false by decide +kernel), kit_ty (by decide +kernel), kit_ty (show kitB "NoneType" "str" = some false by decide +kernel), any _ false false (by decide +kernel) (by decide +kernel)⟩
  | int i => exact ⟨.type "int", fun _ _ => .base (.int i), kit_ty (show kitB "int" "int" = some true by decide +kernel), kit_ty (by decide +kernel), kit_ty (show kitB "int" "str" = some false by decide +kernel), any _ false false (by decide +kernel) (by decide +kernel)⟩
  | str x => exact ⟨.type "str", fun _ _ => .base (.str x), kit_ty (show kitB "str" "int" = some false by decide +kernel), kit_ty (by decide +kernel), kit_ty (show kitB "str" "str" = some true by decide +kernel), any _ false false (by decide +kernel) (by decide +kernel)⟩
  | @seq a xs e =>
    rcases e with e | e
    · exact ⟨.type "list", fun _ s => .base (.lst (s _ _ e)), kit_ty (show kitB "list" "int" = some false by decide +kernel), kit_ty (by decide +kernel), kit_ty (show kitB "list" "str" = some false by decide +kernel), any _ true false (by decide +kernel) (by decide +kernel)⟩
    · exact ⟨.type "tuple", fun _ s => .base (.tup (s _ _ e)), kit_ty (show kitB "tuple" "int" = some false by decide +kernel), kit_ty (by decide +kernel), kit_ty (show kitB "tuple" "str" = some false by decide +kernel), any _ false true (by decide +kernel) (by decide +kernel)⟩
/-! ### operations that end in a tuple -/
/-- the answer is a tuple of xs -/
def RT (xs : List V) (H : Hp) (Q : VK) : Prop := ∀ p H', Same H H' → H' p = some (.tup xs) → Q (.ref p) H'
theorem cat_of {K : PySem.W.Frag} {a b : Addr} {xs ys : List V} {H : Hp} {Q : VK} (ha : H a = some (.tup xs)) (hb : H b = some (.tup ys)) (hz : xs.length + ys.length ≤ sizeLine) (k : RT (xs ++ ys) H Q) : rCatA K (.ref a) (.ref b) H Q := by
  refine ⟨a, b, xs, ys, rfl, rfl, SqT.of ha, SqT.of hb, hz, fun e => ?_, fun _ e => ?_, fun _ _ p hp => k p _ (same_upd hp) upd_same⟩
  · subst e; exact k b H (Same.refl H) hb
  · subst e; rw [List.append_nil] at k; exact k a H (Same.refl H) ha
theorem cutV_all {xs : List V} {lo hi : Option Int} (h : HT.sIx xs.length 0 lo = 0 ∧ HT.sIx xs.length xs.length hi = xs.length) : cutV xs lo hi = xs := by
  unfold cutV
  rw [h.1, h.2]
  simp
theorem sl_of {K : PySem.W.Frag} {a : Addr} {xs : List V} {lo hi : Option Int} {H : Hp} {Q : VK} (ha : H a = some (.tup xs)) (k : RT (cutV xs lo hi) H Q) : rSlA K (.ref a) lo hi H Q := by
  refine ⟨a, xs, rfl, SqT.of ha, fun h => ?_, fun _ p hp => k p _ (same_upd hp) upd_same⟩
  rw [cutV_all h] at k
  exact k a H (Same.refl H) ha
theorem cutV_to {xs : List V} {n : Nat} (h : n ≤ xs.length) : cutV xs none (some (n : Int)) = xs.take n := by
  unfold cutV
  rw [HT.sIx_none, HT.sIx_nat, Nat.min_eq_left h]
  simp
theorem cutV_from {xs : List V} {n : Nat} (h : n ≤ xs.length) : cutV xs (some (n : Int)) none = xs.drop n := by
  unfold cutV
  rw [HT.sIx_none, HT.sIx_nat, Nat.min_eq_left h]
  rw [List.take_of_length_le (by simp)]
theorem sz16 {n : Nat} (h : n ≤ 16777216) : n ≤ sizeLine := by rw [sizeLine_eq]; exact h
end K53

set_option Elab.async false
set_option linter.all false
set_option maxRecDepth 100000
set_option maxHeartbeats 4000000
/-! names of the top, passing on -/
namespace K53
open PySem PySem.Spec PyProof.Rows L2
section
variable {X : Cx} {x : Str} {pos : Pos}
theorem pe_gi {n : Int} (h : ∃ t, X.mg x = some (.int n t)) (hg : Gl X x := by rfl) (hd : (x == ("__debug__" : Str)) = false := by decide) : PE X (.Name x pos) (tC (.int n)) := by
  obtain ⟨t, h⟩ := h
  exact pe_glob hg h ⟨t, rfl⟩ hd
theorem pe_gs {n : Str} (h : ∃ t, X.mg x = some (.str n t)) (hg : Gl X x := by rfl) (hd : (x == ("__debug__" : Str)) = false := by decide) : PE X (.Name x pos) (tC (.str n)) := by
  obtain ⟨t, h⟩ := h
  exact pe_glob hg h ⟨t, rfl⟩ hd
theorem pe_gt {T : String} (h : X.mg x = none) (hv : bootBuiltins x = some (.type T)) (hg : Gl X x := by rfl) (hn : x ≠ "__name__" := by decide) (hd : (x == ("__debug__" : Str)) = false := by decide) : PE X (.Name x pos) (tC (.ty T)) := pe_bltn hg h hv rfl hn hd
theorem passE {E : XK} (tk : Takes X fun cls d _ H => E cls d H) : Passes (L2.CX X.prog X.w) X E := fun _ _ _ _ e s' I c => tk e s' (XE.of_call I (fun _ _ _ h => h) c)
end
section
variable {P : Program} {K : PySem.W.Frag} {mg : Str → Option Value}
theorem Tx.kp_is_integer (T : Tx P K mg) : PySem.W.keepIn K (.ref (He.ga K "is_integer")) = true := T.kp 0 (d := dd_is_integer) rfl
theorem Tx.kp_is_number (T : Tx P K mg) : PySem.W.keepIn K (.ref (He.ga K "is_number")) = true := T.kp 1 (d := dd_is_number) rfl
theorem Tx.kp_is_below (T : Tx P K mg) : PySem.W.keepIn K (.ref (He.ga K "is_below")) = true := T.kp 2 (d := dd_is_below) rfl
theorem Tx.kp_is_sequence (T : Tx P K mg) : PySem.W.keepIn K (.ref (He.ga K "is_sequence")) = true := T.kp 3 (d := dd_is_sequence) rfl
theorem Tx.kp_is_text (T : Tx P K mg) : PySem.W.keepIn K (.ref (He.ga K "is_text")) = true := T.kp 4 (d := dd_is_text) rfl
theorem Tx.kp_need_octets (T : Tx P K mg) : PySem.W.keepIn K (.ref (He.ga K "need_octets")) = true := T.kp 5 (d := dd_need_octets) rfl
theorem Tx.kp_is_sign (T : Tx P K mg) : PySem.W.keepIn K (.ref (He.ga K "is_sign")) = true := T.kp 6 (d := dd_is_sign) rfl
theorem Tx.kp_is_part (T : Tx P K mg) : PySem.W.keepIn K (.ref (He.ga K "is_part")) = true := T.kp 7 (d := dd_is_part) rfl
theorem Tx.kp_as_value (T : Tx P K mg) : PySem.W.keepIn K (.ref (He.ga K "as_value")) = true := T.kp 8 (d := dd_as_value) rfl
theorem Tx.kp_need_row (T : Tx P K mg) : PySem.W.keepIn K (.ref (He.ga K "need_row")) = true := T.kp 9 (d := dd_need_row) rfl
theorem Tx.kp_figures_of (T : Tx P K mg) : PySem.W.keepIn K (.ref (He.ga K "figures_of")) = true := T.kp 10 (d := dd_figures_of) rfl
theorem Tx.kp_number_form (T : Tx P K mg) : PySem.W.keepIn K (.ref (He.ga K "number_form")) = true := T.kp 11 (d := dd_number_form) rfl
theorem Tx.kp_written (T : Tx P K mg) : PySem.W.keepIn K (.ref (He.ga K "written")) = true := T.kp 12 (d := dd_written) rfl
theorem Tx.kp_write_row (T : Tx P K mg) : PySem.W.keepIn K (.ref (He.ga K "write_row")) = true := T.kp 13 (d := dd_write_row) rfl
theorem Tx.kp_begun (T : Tx P K mg) : PySem.W.keepIn K (.ref (He.ga K "begun")) = true := T.kp 22 (d := dd_begun) rfl
theorem Tx.kp_read_row (T : Tx P K mg) : PySem.W.keepIn K (.ref (He.ga K "read_row")) = true := T.kp 23 (d := dd_read_row) rfl
theorem Tx.kp_read_rows (T : Tx P K mg) : PySem.W.keepIn K (.ref (He.ga K "read_rows")) = true := T.kp 24 (d := dd_read_rows) rfl
theorem Tx.kp_page_octets (T : Tx P K mg) : PySem.W.keepIn K (.ref (He.ga K "page_octets")) = true := T.kp 25 (d := dd_page_octets) rfl
theorem Tx.kp_is_head (T : Tx P K mg) : PySem.W.keepIn K (.ref (He.ga K "is_head")) = true := T.kp 26 (d := dd_is_head) rfl
theorem Tx.kp_page_told (T : Tx P K mg) : PySem.W.keepIn K (.ref (He.ga K "page_told")) = true := T.kp 27 (d := dd_page_told) rfl
theorem Tx.kp_plain_journal (T : Tx P K mg) : PySem.W.keepIn K (.ref (He.ga K "plain_journal")) = true := T.kp 28 (d := dd_plain_journal) rfl
theorem Tx.kp_open_journal (T : Tx P K mg) : PySem.W.keepIn K (.ref (He.ga K "open_journal")) = true := T.kp 36 (d := dd_open_journal) rfl
theorem Tx.kp_row_ends (T : Tx P K mg) : PySem.W.keepIn K (.ref (He.ga K "row_ends")) = true := T.kp 37 (d := dd_row_ends) rfl
theorem Tx.kp_journal_cuts (T : Tx P K mg) : PySem.W.keepIn K (.ref (He.ga K "journal_cuts")) = true := T.kp 38 (d := dd_journal_cuts) rfl
theorem Tx.kp__law_box (T : Tx P K mg) : PySem.W.keepIn K (.ref (He.ga K "_law_box")) = true := T.kp 39 (d := dd__law_box) rfl
theorem Tx.kp__law_take (T : Tx P K mg) : PySem.W.keepIn K (.ref (He.ga K "_law_take")) = true := T.kp 40 (d := dd__law_take) rfl
theorem Tx.kp__law_pick (T : Tx P K mg) : PySem.W.keepIn K (.ref (He.ga K "_law_pick")) = true := T.kp 41 (d := dd__law_pick) rfl
theorem Tx.kp__law_number (T : Tx P K mg) : PySem.W.keepIn K (.ref (He.ga K "_law_number")) = true := T.kp 42 (d := dd__law_number) rfl
theorem Tx.kp__law_form (T : Tx P K mg) : PySem.W.keepIn K (.ref (He.ga K "_law_form")) = true := T.kp 43 (d := dd__law_form) rfl
theorem Tx.kp__law_page (T : Tx P K mg) : PySem.W.keepIn K (.ref (He.ga K "_law_page")) = true := T.kp 44 (d := dd__law_page) rfl
theorem Tx.kp__law_lens (T : Tx P K mg) : PySem.W.keepIn K (.ref (He.ga K "_law_lens")) = true := T.kp 45 (d := dd__law_lens) rfl
theorem Tx.kp__law_whole_rows (T : Tx P K mg) : PySem.W.keepIn K (.ref (He.ga K "_law_whole_rows")) = true := T.kp 46 (d := dd__law_whole_rows) rfl
theorem Tx.kp__law_row (T : Tx P K mg) : PySem.W.keepIn K (.ref (He.ga K "_law_row")) = true := T.kp 47 (d := dd__law_row) rfl
theorem Tx.kp__law_behind (T : Tx P K mg) : PySem.W.keepIn K (.ref (He.ga K "_law_behind")) = true := T.kp 48 (d := dd__law_behind) rfl
theorem Tx.kp__law_is_right (T : Tx P K mg) : PySem.W.keepIn K (.ref (He.ga K "_law_is_right")) = true := T.kp 49 (d := dd__law_is_right) rfl
theorem Tx.kp__law_cut_right (T : Tx P K mg) : PySem.W.keepIn K (.ref (He.ga K "_law_cut_right")) = true := T.kp 50 (d := dd__law_cut_right) rfl
theorem Tx.kp_law (T : Tx P K mg) : PySem.W.keepIn K (.ref (He.ga K "law")) = true := T.kp 51 (d := dd_law) rfl
end
end K53

set_option Elab.async false
set_option linter.all false
set_option maxRecDepth 100000
set_option maxHeartbeats 4000000
/-! a walk over a name that holds a list or a tuple -/
namespace K53
open PySem PySem.Spec PyProof.Rows L2
def iSqv (K : PySem.W.Frag) (i : Nat) : TI := fun σ H R => ∃ a xs, σ[i]? = some (some (.ref a)) ∧ ((SqL K H a xs ∧ R (Itl K a) H) ∨ (SqT K H a xs ∧ R (Itt K a) H))
theorem pi_sqv (X : Cx) {tg : Expr} (i : Nat) {x : Str} {pos : Pos} (hN : X.N[i]? = some x := by rfl) (hv : Vis X.env.scope x := by first | exact Or.inl rfl | exact Or.inr (Or.inl rfl) | exact Or.inr (Or.inr rfl)) (hd : (x == ("__debug__" : Str)) = false := by decide)
    (hcd : (x == ("__classdict__" : Str)) = false := by decide) : PI X tg (.Name x pos) (iSqv X.K i) := by
  refine ⟨fun pins s σ H R I h => ?_⟩
  obtain ⟨a, xs, e, ⟨h1, h2⟩ | ⟨h1, h2⟩⟩ := h
  · exact (pi_list (pv i hN hv hd hcd)).run pins s σ H R I ⟨_, e, a, rfl, ⟨_, h1⟩, h2⟩
  · exact (pi_tup (pv i hN hv hd hcd)).run pins s σ H R I ⟨_, e, a, rfl, ⟨_, h1⟩, h2⟩
def iEnv (K : PySem.W.Frag) (i : Nat) : TI := fun σ H R => ∃ a xs, σ[i]? = some (some (.ref a)) ∧ ((SqL K H a xs ∧ R (Ite K a) H) ∨ (SqT K H a xs ∧ R (Iet K a) H))
theorem pi_env (X : Cx) (i : Nat) {x : Str} {npos p pos tpos : Pos} {elts : List Expr} {kk : Nat} (hg : Gl X "enumerate") (hm : X.mg "enumerate" = none) (hN : X.N[i]? = some x := by rfl) (hv : Vis X.env.scope x := by first | exact Or.inl rfl | exact Or.inr (Or.inl rfl) | exact Or.inr (Or.inr rfl)) (hd : (x == ("__debug__" : Str)) = false := by decide)
    (hcd : (x == ("__classdict__" : Str)) = false := by decide) (hs : starEach [.Name x npos] X.env = [(false, eval (.Name x npos) X.env)] := by rfl) (h2 : starEach ((.Name x npos) :: []) X.env = (false, eval (.Name x npos) X.env) :: starEach [] X.env := by rfl) : PI X (.Tuple elts kk tpos) (.Call (.Name "enumerate" p) [.Name x npos] [] pos) (iEnv X.K i) := by
  refine ⟨fun pins s σ H R I h => ?_⟩
  have pa : PA X [Expr.Name x npos] (tCons (tVar i) tNil) := pa_cons (pv i hN hv hd hcd) pa_nil h2
  obtain ⟨a, xs, e, ⟨h1, h2⟩ | ⟨h1, h2⟩⟩ := h
  · exact (pi_enum hg hm pa hs).run pins s σ H R I ⟨_, e, a, xs, rfl, h1, h2⟩
  · exact (pi_enumT hg hm pa hs).run pins s σ H R I ⟨_, e, a, xs, rfl, h1, h2⟩
section
variable {K : PySem.W.Frag} {a : Addr} {xs : List V} {H : Hp}
theorem Sq.sq (h : Sq H a xs) : SqL K H a xs ∨ SqT K H a xs := h.imp SqL.of SqT.of
/-- for x in xs -/
theorem for_sq {i : Nat} {g : TG} {tb : L2.TS} {D : Ends} {σ : L2.St} (e : σ[i]? = some (some (.ref a))) (hs : Sq H a xs) (Pv : Nat → L2.St → Hp → Prop) (h0 : Pv 0 σ H) (hk : ∀ j σ' H', j ≤ xs.length → Pv j σ' H' → Same H H')
    (step : ∀ j x σ' H', xs[j]? = some x → Pv j σ' H' → g x σ' H' fun σ2 H2 => tb { nx := Pv (j + 1), rt := D.rt, bk := D.nx, ct := Pv (j + 1) } σ2 H2) (last : ∀ σ' H', Pv xs.length σ' H' → D.nx σ' H') : tFor (iSqv K i) g tb D σ H := by
  rcases hs with h | h
  · exact ⟨a, xs, e, .inl ⟨SqL.of h, for_list Pv h0 (fun j σ' H' hj p => SqL.of (hk j σ' H' hj p _ _ h)) step last⟩⟩
  · exact ⟨a, xs, e, .inr ⟨SqT.of h, for_tup Pv h0 (fun j σ' H' hj p => SqT.of (hk j σ' H' hj p _ _ h)) step last⟩⟩
/-- for i, x in enumerate(xs) -/
theorem for_env {i : Nat} {g : TG} {tb : L2.TS} {D : Ends} {σ : L2.St} (e : σ[i]? = some (some (.ref a))) (hs : Sq H a xs) (Pv : Nat → L2.St → Hp → Prop) (h0 : Pv 0 σ H) (hk : ∀ j σ' H', j ≤ xs.length → Pv j σ' H' → Same H H')
    (step : ∀ j x σ' H' T, xs[j]? = some x → Pv j σ' H' → H' T = none → g (.ref T) σ' (upd H' T (.tup [.int (j : Nat), x])) fun σ2 H2 => tb { nx := Pv (j + 1), rt := D.rt, bk := D.nx, ct := Pv (j + 1) } σ2 H2) (last : ∀ σ' H', Pv xs.length σ' H' → D.nx σ' H') :
    tFor (iEnv K i) g tb D σ H := by
  rcases hs with h | h
  · refine ⟨a, xs, e, .inl ⟨SqL.of h, for_it walk_enum Pv h0 (fun j σ' H' hj p => SqL.of (hk j σ' H' hj p _ _ h)) ?_ last⟩⟩
    rintro j x σ' H' H2 hj p ⟨T, y, z, rfl, h1, rfl, h2, h3⟩
    have e2 : V.int (j : Nat) = y := Option.some.inj h2
    subst e2
    exact step j z σ' H' T h3 p h1
  · refine ⟨a, xs, e, .inr ⟨SqT.of h, for_it walk_enumT Pv h0 (fun j σ' H' hj p => SqT.of (hk j σ' H' hj p _ _ h)) ?_ last⟩⟩
    rintro j x σ' H' H2 hj p ⟨T, y, z, rfl, h1, rfl, h2, h3⟩
    have e2 : V.int (j : Nat) = y := Option.some.inj h2
    subst e2
    exact step j z σ' H' T h3 p h1
end
/-- all but these stay -/
def Sx (ex : Addr → Prop) (H H' : Hp) : Prop := ∀ b o, ¬ ex b → H b = some o → H' b = some o
theorem Sx.refl (ex : Addr → Prop) (H : Hp) : Sx ex H H := fun _ _ _ h => h
theorem Sx.trans {ex : Addr → Prop} {H1 H2 H3 : Hp} (a : Sx ex H1 H2) (b : Sx ex H2 H3) : Sx ex H1 H3 := fun c o n h => b c o n (a c o n h)
theorem Sx.same {H H' : Hp} (a : Sx (fun _ => False) H H') : Same H H' := fun b o h => a b o id h
theorem sx_same {ex : Addr → Prop} {H H' : Hp} (a : Same H H') : Sx ex H H' := fun b o _ h => a b o h
theorem sx_upd {ex : Addr → Prop} {H H' : Hp} {D : Addr} {o : HO} (s : Sx ex H H') (h : H D = none) : Sx ex H (upd H' D o) := fun b u n e => by rw [upd_ne (ne_of_none e h)]; exact s b u n e
theorem sx_at {ex : Addr → Prop} {H H' : Hp} {D : Addr} {o : HO} (s : Sx ex H H') (h : ex D) : Sx ex H (upd H' D o) := fun b u n e => by rw [upd_ne (fun z => n (by rw [z]; exact h))]; exact s b u n e
theorem set_get {σ : L2.St} {k : Nat} {u : Option V} {x : V} (h : σ[k]? = some u) : (σ.set k (some x))[k]? = some (some x) := by
  rw [List.getElem?_set_self]
  exact (List.getElem?_eq_some_iff.mp h).1
/-- [e for x in ..] -/
theorem lc_walk {J : It} {n : Nat} {G : Hp → Prop} {Y : Nat → Hp → V → Hp → Prop} (w : L2.Walk J n G Y) {k : Nat} {te : TE} {σ : L2.St} {H : Hp} {Q : VK} (ex : Addr → Prop) (hex : ∀ b, ex b → H b ≠ none) (hn : n < sizeLine)
    (P : Nat → List V → Hp → Prop) (hG : ∀ H', Sx ex H H' → G H') (h0 : ∀ D, H D = none → P 0 [] (upd H D (.lst []))) (mono : ∀ j acc H1 D l l', ¬ ex D → H1 D = some (.lst l) → P j acc H1 → P j acc (upd H1 D (.lst l')))
    (step : ∀ j v acc H1 H2, j < n → Y j H1 v H2 → Sx ex H H1 → acc.length = j → P j acc H1 → ∀ Q1 : VK, (∀ x H4, Sx ex H1 H4 → P (j + 1) (acc ++ [x]) H4 → Q1 x H4) → te (σ.set k (some v)) H2 Q1)
    (last : ∀ D acc H', acc.length = n → Sx ex H H' → H' D = some (.lst acc) → P n acc H' → Q (.ref D) H') : ∀ D, H D = none → ∃ W : Nat → Nat → Hp → Prop, (∃ m, W 0 m (upd H D (.lst []))) ∧ ∀ i m H, W i m H →
      ((J.stop i H ∧ Q (.ref D) H) ∨ (J.go i H ∧ ∃ Nx : Hp → Prop, (∀ H', Nx H' → ∃ m', m' < m ∧ W (i + 1) m' H') ∧ ∀ x H', J.yld i H x H' → gName k x (wipe σ [k]) H' fun σ2 H2 => wipe σ2 [k] = wipe σ [k] ∧ tYes σ2 H2 fun b H3 =>
        if b = true then te σ2 H3 fun y H4 => ∃ acc, H4 D = some (.lst acc) ∧ acc.length < sizeLine ∧ Nx (upd H4 D (.lst (acc ++ [y]))) else Nx H3)) := by
  intro D hD
  have hne : ¬ ex D := fun z => hex D z hD
  refine lc_it w (fun j H' => ∃ acc, acc.length = j ∧ Sx ex H H' ∧ H' D = some (.lst acc) ∧ P j acc H') ⟨[], rfl, sx_upd (Sx.refl ex H) hD, upd_same, h0 D hD⟩ (fun j H' _ ⟨acc, _, s, _⟩ => hG H' s) ?_ (fun H' ⟨acc, h1, h2, h3, h4⟩ => last D acc H' h1 h2 h3 h4)
  rintro j x H1 H2 hj ⟨acc, h1, h2, h3, h4⟩ y
  have e : wipe σ [k] = σ.set k none := rfl
  refine ⟨by show ((σ.set k none).set k (some x)).set k none = σ.set k none; rw [List.set_set, List.set_set], ?_⟩
  unfold tYes
  dsimp only
  rw [if_pos rfl]
  rw [e, List.set_set]
  refine step j x acc H1 H2 hj y h2 h1 h4 _ fun v H4 s4 p4 => ?_
  have hD4 := s4 D _ hne h3
  exact ⟨acc, hD4, by omega, acc ++ [v], by simp [h1], sx_upd (h2.trans s4) hD, upd_same, mono _ _ _ _ _ _ hne hD4 p4⟩
/-- over a list or a tuple that a name holds -/
theorem lc_sq {K : PySem.W.Frag} {i k : Nat} {te : TE} {σ : L2.St} {H : Hp} {Q : VK} {a : Addr} {xs : List V} (ex : Addr → Prop) (e : σ[i]? = some (some (.ref a))) (hs : Sq H a xs) (hex : ∀ b, ex b → H b ≠ none) (hxa : ¬ ex a) (hn : xs.length < sizeLine)
    (P : Nat → List V → Hp → Prop) (h0 : ∀ D, H D = none → P 0 [] (upd H D (.lst []))) (mono : ∀ j acc H1 D l l', ¬ ex D → H1 D = some (.lst l) → P j acc H1 → P j acc (upd H1 D (.lst l')))
    (step : ∀ j v acc H1, xs[j]? = some v → Sx ex H H1 → acc.length = j → P j acc H1 → ∀ Q1 : VK, (∀ x H4, Sx ex H1 H4 → P (j + 1) (acc ++ [x]) H4 → Q1 x H4) → te (σ.set k (some v)) H1 Q1)
    (last : ∀ D acc H', acc.length = xs.length → Sx ex H H' → H' D = some (.lst acc) → P xs.length acc H' → Q (.ref D) H') : tLc (iSqv K i) (gName k) tYes te [k] σ H Q := by
  rcases hs with h | h
  · refine ⟨a, xs, e, .inl ⟨SqL.of h, lc_walk (Y := YAt xs) walk_list ex hex hn P (fun H' s => SqL.of (s _ _ hxa h)) h0 mono ?_ last⟩⟩
    rintro j v acc H1 H2 hj ⟨rfl, hv⟩
    exact step j v acc _ hv
  · refine ⟨a, xs, e, .inr ⟨SqT.of h, lc_walk (Y := YAt xs) walk_tup ex hex hn P (fun H' s => SqT.of (s _ _ hxa h)) h0 mono ?_ last⟩⟩
    rintro j v acc H1 H2 hj ⟨rfl, hv⟩
    exact step j v acc _ hv
/-- over a text's signs -/
theorem lc_sgn {i k : Nat} {te : TE} {σ : L2.St} {H : Hp} {Q : VK} {z : Str} (ex : Addr → Prop) (e : σ[i]? = some (some (.str z))) (hex : ∀ b, ex b → H b ≠ none) (hn : z.length < sizeLine)
    (P : Nat → List V → Hp → Prop) (h0 : ∀ D, H D = none → P 0 [] (upd H D (.lst []))) (mono : ∀ j acc H1 D l l', ¬ ex D → H1 D = some (.lst l) → P j acc H1 → P j acc (upd H1 D (.lst l')))
    (step : ∀ j c acc H1, z.cps.toList[j]? = some c → Sx ex H H1 → acc.length = j → P j acc H1 → ∀ Q1 : VK, (∀ x H4, Sx ex H1 H4 → P (j + 1) (acc ++ [x]) H4 → Q1 x H4) → te (σ.set k (some (.str ⟨#[c]⟩))) H1 Q1)
    (last : ∀ D acc H', acc.length = z.length → Sx ex H H' → H' D = some (.lst acc) → P z.length acc H' → Q (.ref D) H') : tLc (iStr (tVar i)) (gName k) tYes te [k] σ H Q := by
  refine ⟨_, e, z, rfl, lc_walk walk_str ex hex hn P (fun _ _ => trivial) h0 mono ?_ last⟩
  rintro j v acc H1 H2 hj ⟨rfl, c, hc, rfl⟩
  exact step j c acc _ (by rw [← hc]; simp)
/-- over a range -/
theorem lc_rng {k : Nat} {ta : TA} {te : TE} {σ : L2.St} {H H0 : Hp} {Q : VK} (n : Nat) (ex : Addr → Prop) (h : ∀ R : List V → Hp → Prop, R [.int (n : Int)] H → ta σ H0 R) (hex : ∀ b, ex b → H b ≠ none) (hn : n < 16777216)
    (P : Nat → List V → Hp → Prop) (h0 : ∀ D, H D = none → P 0 [] (upd H D (.lst []))) (mono : ∀ j acc H1 D l l', ¬ ex D → H1 D = some (.lst l) → P j acc H1 → P j acc (upd H1 D (.lst l')))
    (step : ∀ j acc H1, j < n → Sx ex H H1 → acc.length = j → P j acc H1 → ∀ Q1 : VK, (∀ x H4, Sx ex H1 H4 → P (j + 1) (acc ++ [x]) H4 → Q1 x H4) → te (σ.set k (some (.int (j : Int)))) H1 Q1)
    (last : ∀ D acc H', acc.length = n → Sx ex H H' → H' D = some (.lst acc) → P n acc H' → Q (.ref D) H') : tLc (iRng1 ta) (gName k) tYes te [k] σ H0 Q := by
  refine h _ ⟨_, rfl, by omega, by omega, ?_⟩
  show ∀ D, H D = none → _
  refine lc_walk walk_range ex hex (Nat.lt_of_lt_of_le hn (sz16 (Nat.le_refl _))) P (fun _ _ => trivial) h0 mono ?_ last
  rintro j v acc H1 H2 hj ⟨rfl, rfl⟩ s1 hl p
  have e : V.int (0 + (j : Int)) = .int (j : Int) := by rw [Int.zero_add]
  show ∀ Q1 : VK, _ → te (σ.set k (some (V.int (0 + (j : Int))))) _ Q1
  rw [e]
  exact step j acc _ hj s1 hl p
theorem cb1 {r : List V → Hp → VK → Prop} {te : TE} {σ : L2.St} {H : Hp} {Q : VK} (h : te σ H fun x H1 => r [x] H1 Q) : tCB r (tCons te tNil) σ H Q := h
end K53

set_option Elab.async false
set_option linter.all false
set_option maxRecDepth 100000
set_option maxHeartbeats 4000000
/-! what a value is -/
namespace K53
open PySem PySem.Spec PyProof.Rows L2
/-- the def holds its promise -/
def Has (P : Program) (w : World) (K : PySem.W.Frag) (mg : Str → Option Value) (base : Heap) (CX : CXT) (k : Nat) (f : Addr) (ps : List Str) (sp : Sp) : Prop := ∃ fd : FuncData, FnOk P w K mg base CX k f fd ps sp ∧ L2.Binds K fd ps []
def spIs (p : V → Bool) : Sp := fun vs H Q _ => ∃ v, vs = [v] ∧ Smp H v ∧ Q (.bl (p v)) H
def spBelow : Sp := fun vs H Q _ => ∃ v m, vs = [v, .int m] ∧ Smp H v ∧ Q (.bl (isB m v)) H
def spSeq : Sp := fun vs H Q _ => ∃ v, vs = [v] ∧ Smp H v ∧ ∀ H', Same H H' → Q (.bl (isR v)) H'
def spSign : Sp := fun vs H Q _ => ∃ c, vs = [.str ⟨#[c]⟩] ∧ Q (.bl (sg.contains c)) H
theorem Smp.up {H H' : Hp} {v : V} (h : Smp H v) (s : Same H H') : Smp H' v := by
  cases h with
  | non => exact .non
  | int i => exact .int i
  | str x => exact .str x
  | seq e => exact .seq (e.up s)
section
variable {P : Program} {w : World} {K : PySem.W.Frag} {mg : Str → Option Value} {base : Heap}
theorem ok_is_integer (T : Tx P K mg) : Has P w K mg base CX0 1 (He.ga K "is_integer") p_is_integer (spIs isI) := by
  obtain ⟨fd, F, b⟩ := T.d_is_integer
  refine ⟨fd, F.ok sc_is_integer (fun vs H Q E ⟨v, e, _⟩ => by rw [e]; rfl) (fun cdv A outer s H vs Q E hr h => ?_), b⟩
  obtain ⟨v, rfl, hv, k⟩ := h
  obtain ⟨t, h1, h2, h3, _, _⟩ := hv.isi (K := K)
  refine ⟨_, PSs.nox (pss_one (ps_ret (pe_and (pe_callB call_isi rfl T.f_isinstance boot_isinstance (pa_cons (pv 0) (pa_cons (pe_gt T.f_int boot_int) pa_nil))) (pe_one (pe_not (pe_callB call_isi rfl T.f_isinstance boot_isinstance (pa_cons (pv 0) (pa_cons (pe_gt T.f_bool boot_bool) pa_nil)))))))), ?_⟩
  refine ⟨v, rfl, v, .ty "int", t, .type "int", isI v, rfl, .ty _, h1 _ (Same.refl _), h2, _, rfl, ?_⟩
  cases e : isI v with
  | false => rw [e] at k; exact iteF k
  | true => rw [e] at k; exact iteT ⟨v, rfl, v, .ty "bool", t, .type "bool", false, rfl, .ty _, h1 _ (Same.refl _), h3, _, rfl, k⟩
theorem ok_is_number (T : Tx P K mg) : Has P w K mg base CX0 2 (He.ga K "is_number") p_is_number (spIs isN) := by
  obtain ⟨_, G_is_integer, b_is_integer⟩ := ok_is_integer (w := w) (base := base) T
  obtain ⟨fd, F, b⟩ := T.d_is_number
  refine ⟨fd, F.ok sc_is_number (fun vs H Q E ⟨v, e, _⟩ => by rw [e]; rfl) (fun cdv A outer s H vs Q E hr h => ?_), b⟩
  obtain ⟨v, rfl, hv, k⟩ := h
  refine ⟨_, PSs.nox (pss_one (ps_ret (pe_and (pe_call G_is_integer (hr.mono (by decide)) rfl T.g_is_integer T.kp_is_integer b_is_integer .nil pass0 (pa_cons (pv 0) pa_nil)) (pe_one (pe_cmpR op_ge (pv 0) pe_int (nomark _)))))), ?_⟩
  refine ⟨v, rfl, v, rfl, hv, _, rfl, ?_⟩
  cases hv with
  | int i => exact iteT ⟨_, rfl, i, 0, rfl, rfl, k⟩
  | non => exact iteF k
  | str x => exact iteF k
  | seq e => exact iteF k
theorem ok_is_below (T : Tx P K mg) : Has P w K mg base CX0 3 (He.ga K "is_below") p_is_below spBelow := by
  obtain ⟨_, G_is_number, b_is_number⟩ := ok_is_number (w := w) (base := base) T
  obtain ⟨fd, F, b⟩ := T.d_is_below
  refine ⟨fd, F.ok sc_is_below (fun vs H Q E ⟨v, m, e, _⟩ => by rw [e]; rfl) (fun cdv A outer s H vs Q E hr h => ?_), b⟩
  obtain ⟨v, m, rfl, hv, k⟩ := h
  refine ⟨_, PSs.nox (pss_one (ps_ret (pe_and (pe_call G_is_number (hr.mono (by decide)) rfl T.g_is_number T.kp_is_number b_is_number .nil pass0 (pa_cons (pv 0) pa_nil)) (pe_one (pe_cmpR op_lt (pv 0) (pv 1) (nomark _)))))), ?_⟩
  refine ⟨v, rfl, v, rfl, hv, _, rfl, ?_⟩
  cases hv with
  | int i =>
    have k : Q (.bl (decide (0 ≤ i) && decide (i < m))) H := k
    show if decide (0 ≤ i) = true then _ else _
    cases e : decide (0 ≤ i) with
    | false => rw [e] at k; exact iteF k
    | true => rw [e] at k; exact iteT ⟨_, rfl, _, rfl, i, m, rfl, rfl, k⟩
  | non => exact iteF k
  | str x => exact iteF k
  | seq e => exact iteF k
theorem ok_is_sequence (T : Tx P K mg) : Has P w K mg base CX0 1 (He.ga K "is_sequence") p_is_sequence spSeq := by
  obtain ⟨fd, F, b⟩ := T.d_is_sequence
  refine ⟨fd, F.ok sc_is_sequence (fun vs H Q E ⟨v, e, _⟩ => by rw [e]; rfl) (fun cdv A outer s H vs Q E hr h => ?_), b⟩
  obtain ⟨v, rfl, hv, k⟩ := h
  obtain ⟨t, h1, _, _, _, h2⟩ := hv.isi (K := K)
  refine ⟨_, PSs.nox (pss_one (ps_ret (pe_callB call_isiT rfl T.f_isinstance boot_isinstance (pa_cons (pv 0) (pa_cons (pe_tup (pa_cons (pe_gt T.f_list boot_list) (pa_cons (pe_gt T.f_tuple boot_tuple) pa_nil))) pa_nil))))), ?_⟩
  refine ⟨v, rfl, by rw [sizeLine_eq]; decide, fun p hp => ?_⟩
  exact ⟨v, p, [.ty "list", .ty "tuple"], t, [.type "list", .type "tuple"], isR v, rfl, upd_same, .cons (.ty _) (.cons (.ty _) .nil), h1 _ (same_upd hp), h2, k _ (same_upd hp)⟩
theorem ok_is_text (T : Tx P K mg) : Has P w K mg base CX0 1 (He.ga K "is_text") p_is_text (spIs isS) := by
  obtain ⟨fd, F, b⟩ := T.d_is_text
  refine ⟨fd, F.ok sc_is_text (fun vs H Q E ⟨v, e, _⟩ => by rw [e]; rfl) (fun cdv A outer s H vs Q E hr h => ?_), b⟩
  obtain ⟨v, rfl, hv, k⟩ := h
  obtain ⟨t, h1, _, _, h2, _⟩ := hv.isi (K := K)
  refine ⟨_, PSs.nox (pss_one (ps_ret (pe_callB call_isi rfl T.f_isinstance boot_isinstance (pa_cons (pv 0) (pa_cons (pe_gt T.f_str boot_str) pa_nil))))), ?_⟩
  exact ⟨v, rfl, v, .ty "str", t, .type "str", isS v, rfl, .ty _, h1 _ (Same.refl _), h2, k⟩
theorem ok_is_sign (T : Tx P K mg) : Has P w K mg base CX0 1 (He.ga K "is_sign") p_is_sign spSign := by
  obtain ⟨fd, F, b⟩ := T.d_is_sign
  refine ⟨fd, F.ok sc_is_sign (fun vs H Q E ⟨c, e, _⟩ => by rw [e]; rfl) (fun cdv A outer s H vs Q E hr h => ?_), b⟩
  obtain ⟨c, rfl, k⟩ := h
  refine ⟨_, PSs.nox (pss_one (ps_ret (pe_cmpR op_in_sign (pv 0) (pe_gs T.s_SIGNS) rfl))), ?_⟩
  refine ⟨_, rfl, c, sgS, rfl, rfl, ?_⟩
  have e : decide (c ∈ sgS.cps.toList) = sg.contains c := by
    unfold sg
    by_cases h : c ∈ sgS.cps.toList <;> simp [h]
  rw [e]
  exact k
end
end K53

set_option Elab.async false
set_option linter.all false
set_option maxRecDepth 100000
set_option maxHeartbeats 4000000
/-! octets, parts, values, rows -/
namespace K53
open PySem PySem.Spec PyProof.Rows L2
def spOct : Sp := fun vs H Q _ => ∃ a l, vs = [.ref a] ∧ Sq H a (nts l) ∧ (∀ x ∈ l, x < 256) ∧ RT (nts l) H Q
def spPart (n : Nat) : Sp := fun vs H Q _ => ∃ v dp, vs = [v, .int dp] ∧ ∃ d m, Rq H v d ∧ okD d m = true ∧ m < n ∧ dp + n ≤ 40 ∧ ∀ H', Same H H' → Q (.bl true) H'
def spAs (n : Nat) : Sp := fun vs H Q _ => ∃ v, vs = [v] ∧ ∃ d m, Rq H v d ∧ okD d m = true ∧ m < n ∧ ∀ v' H', Same H H' → Rp H' v' d → Q v' H'
def spNeed : Sp := fun vs H Q _ => ∃ v, vs = [v] ∧ ∃ s ds, Rq H v (.tuple (.str s :: ds)) ∧ okD (.tuple (.str s :: ds)) 3 = true ∧ ∀ v' H', Same H H' → Rp H' v' (.tuple (.str s :: ds)) → Q v' H'
theorem nts_mem {l : List Nat} {j : Nat} {v : V} (h : (nts l)[j]? = some v) : ∃ x : Nat, v = .int (x : Int) ∧ l[j]? = some x := by
  rw [List.getElem?_map] at h
  cases e : l[j]? with
  | none => rw [e] at h; cases h
  | some x => rw [e] at h; exact ⟨x, (Option.some.inj h).symm, rfl⟩
theorem big : (18446744073709551616 : Int) ≤ 2 ^ 1600 := by decide +kernel
theorem RT.of_same {xs : List V} {H H1 : Hp} {Q : VK} (k : RT xs H Q) (s : Same H H1) : RT xs H1 Q := fun p H' s' e => k p H' (s.trans s') e
theorem up_lst {H : Hp} {D : Addr} {l l' : List V} (h : H D = some (.lst l)) : TS H (upd H D (.lst l')) := fun a xs e => by
  have n : a ≠ D := fun z => by rw [z, h] at e; cases e
  rw [upd_ne n]
  exact e
theorem same_tup {H H1 : Hp} {T : Addr} {xs : List V} (s : Same H H1) (h : H1 T = none) : Same H (upd H1 T (.tup xs)) := s.trans (same_upd h)
theorem Rq.split {H : Hp} {a : Addr} {xs : List V} {d : PyData} {m : Nat} (hv : Rq H (.ref a) d) (hd : okD d m = true) (e : Sq H a xs) : ∃ ds m', d = .tuple ds ∧ m = m' + 1 ∧ RpAll H xs ds ∧ ds.length ≤ 20 ∧ okAll ds m' = true := by
  rcases hv with hv | ⟨a', xs', ds, e1, rfl, e3, r⟩
  · cases hv with
    | @tup a xs2 ds e' r =>
      have ex : xs2 = xs := by
        rcases e with e | e
        · rw [e'] at e; cases e
        · rw [e'] at e; cases e; rfl
      subst ex
      cases m with
      | zero => simp [okD] at hd
      | succ m' =>
        have hd' : ds.length ≤ 20 ∧ okAll ds m' = true := by simpa [okD] using hd
        exact ⟨ds, m', rfl, rfl, r, hd'⟩
  · cases e1
    have ex : xs' = xs := by
      rcases e with e | e
      · rw [e3] at e; cases e; rfl
      · rw [e3] at e; cases e
    subst ex
    cases m with
    | zero => simp [okD] at hd
    | succ m' =>
      have hd' : ds.length ≤ 20 ∧ okAll ds m' = true := by simpa [okD] using hd
      exact ⟨ds, m', rfl, rfl, r, hd'⟩
theorem Rq.rp {H : Hp} {v : V} {d : PyData} (h : Rq H v d) (n : isR v = false) : Rp H v d := by
  rcases h with h | ⟨_, _, _, rfl, _⟩
  · exact h
  · cases n
theorem take_snoc {α : Type} {l : List α} {i : Nat} {x : α} (h : l[i]? = some x) : l.take (i + 1) = l.take i ++ [x] := by
  rw [List.take_add_one, h]
  rfl
section
variable {P : Program} {w : World} {K : PySem.W.Frag} {mg : Str → Option Value} {base : Heap}
theorem ok_need_octets (T : Tx P K mg) : Has P w K mg base CX0 4 (He.ga K "need_octets") p_need_octets spOct := by
  obtain ⟨_, G_is_sequence, b_is_sequence⟩ := ok_is_sequence (w := w) (base := base) T
  obtain ⟨_, G_is_below, b_is_below⟩ := ok_is_below (w := w) (base := base) T
  obtain ⟨fd, F, b⟩ := T.d_need_octets
  refine ⟨fd, F.ok sc_need_octets (fun vs H Q E ⟨a, l, e, _⟩ => by rw [e]; rfl) (fun cdv A outer s H vs Q E hr h => ?_), b⟩
  obtain ⟨a, l, rfl, hs, hl, k⟩ := h
  refine ⟨_, PSs.nox (pss_cons (ps_if (pt_not (pt_val (pe_call G_is_sequence (hr.mono (by decide)) rfl T.g_is_sequence T.kp_is_sequence b_is_sequence .nil pass0 (pa_cons (pv 0) pa_nil)))) (pss_one ps_never) pss_nil)
      (pss_cons (ps_for PassesOwn.never rfl (pi_env _ 0 rfl T.f_enumerate) (pg_tup rfl (pgs_cons (pg_name (i := 1) sc_need_octets.nd rfl (Or.inl rfl)) (pgs_cons (pg_name (i := 2) sc_need_octets.nd rfl (Or.inl rfl)) pgs_nil))) (pss_one (ps_if (pt_not (pt_val (pe_call G_is_below (hr.mono (by decide)) rfl T.g_is_below T.kp_is_below b_is_below .nil pass0 (pa_cons (pv 2) (pa_cons (pe_gi T.i_MOST_OCTET) pa_nil))))) (pss_one ps_never) pss_nil)))
      (pss_one (ps_ret (pe_callTy call_tuple_of rfl T.f_tuple boot_tuple (pa_cons (pv 0) pa_nil)))))), ?_⟩
  refine ⟨_, rfl, _, rfl, .seq hs, fun H1 s1 => ⟨_, rfl, ?_⟩⟩
  refine iteF ?_
  refine for_env (a := a) (xs := nts l) rfl (hs.up s1) (fun j σ' H' => Same H1 H' ∧ ∃ u v, σ' = [some (.ref a), u, v]) ⟨Same.refl _, none, none, rfl⟩ (fun j σ' H' _ h => h.1) ?_ ?_
  · rintro j x σ' H' t hj ⟨s2, u, v, rfl⟩ ht
    obtain ⟨y, rfl, hy⟩ := nts_mem hj
    refine ⟨t, _, rfl, SqT.of upd_same, rfl, _, _, rfl, _, _, rfl, rfl, ?_⟩
    refine ⟨_, rfl, _, _, rfl, .int _, _, rfl, ?_⟩
    have e : isB 256 (V.int (y : Int)) = true := by
      have := hl y (List.mem_of_getElem? hy)
      show (decide (0 ≤ (y : Int)) && decide ((y : Int) < 256)) = true
      simp
      omega
    rw [e]
    exact iteF ⟨same_tup s2 ht, _, _, rfl⟩
  · rintro σ' H' ⟨s2, u, v, rfl⟩
    have h2 := (hs.up s1).up s2
    refine ⟨_, rfl, a, nts l, rfl, ?_⟩
    have k := k.of_same (s1.trans s2)
    rcases h2 with h2 | h2
    · exact .inl ⟨SqL.of h2, fun p hp => k p _ (same_upd hp) upd_same⟩
    · exact .inr ⟨SqT.of h2, k a _ (Same.refl _) h2⟩
theorem all_true (n : Nat) : List.replicate n (V.bl true) = (List.replicate n true).map V.bl := by simp
theorem all_id (n : Nat) : (List.replicate n true).all id = true := by
  rw [List.all_eq_true]
  intro x h
  exact (List.mem_replicate.mp h).2
theorem no_ex : ∀ {H : Hp} (b : Addr), (fun _ : Addr => False) b → H b ≠ none := fun _ h => h.elim
theorem ok_is_part (T : Tx P K mg) : ∀ n : Nat, Has P w K mg base CX0 (n + 4) (He.ga K "is_part") p_is_part (spPart n)
  | 0 => by
    obtain ⟨fd, F, b⟩ := T.d_is_part
    exact ⟨fd, F.ok sc_is_part (fun vs H Q E ⟨v, dp, e, _⟩ => by rw [e]; rfl) (fun cdv A outer s H vs Q E hr ⟨v, dp, e, d, m, _, _, h, _⟩ => absurd h (Nat.not_lt_zero _)), b⟩
  | n + 1 => by
    obtain ⟨_, G_is_integer, b_is_integer⟩ := ok_is_integer (w := w) (base := base) T
    obtain ⟨_, G_is_text, b_is_text⟩ := ok_is_text (w := w) (base := base) T
    obtain ⟨_, G_is_sequence, b_is_sequence⟩ := ok_is_sequence (w := w) (base := base) T
    obtain ⟨_, G_is_sign, b_is_sign⟩ := ok_is_sign (w := w) (base := base) T
    obtain ⟨_, G_is_part, b_is_part⟩ := ok_is_part T n
    obtain ⟨fd, F, b⟩ := T.d_is_part
    refine ⟨fd, F.ok sc_is_part (fun vs H Q E ⟨v, dp, e, _⟩ => by rw [e]; rfl) (fun cdv A outer s H vs Q E hr h => ?_), b⟩
    obtain ⟨v, dp, rfl, d, m, hv, hd, hm, hdp, k⟩ := h
    refine ⟨_, PSs.nox (pss_cons (ps_if (pt_cmpR op_isN (pv 0) pe_non (nomark _)) (pss_one (ps_ret pe_bl)) pss_nil)
      (pss_cons (ps_if (pt_val (pe_call G_is_integer (hr.mono (by omega)) rfl T.g_is_integer T.kp_is_integer b_is_integer .nil pass0 (pa_cons (pv 0) pa_nil))) (pss_one (ps_ret (pe_chain op_le op_lt (pe_un un_neg (pe_gi T.i_END)) (pv 0) (pe_gi T.i_END)))) pss_nil)
      (pss_cons (ps_if (pt_val (pe_call G_is_text (hr.mono (by omega)) rfl T.g_is_text T.kp_is_text b_is_text .nil pass0 (pa_cons (pv 0) pa_nil))) (pss_one (ps_ret (pe_and (pe_cmpR op_le (pe_callB call_len_str rfl T.f_len boot_len (pa_cons (pv 0) pa_nil)) (pe_gi T.i_MOST_PARTS) (nomark _)) (pe_one (pe_callB (cr_all rfl) rfl T.f_all boot_all (pa_cons (pe_lc (own := [("sign", 2)]) rfl sc_is_part.nd (pi_str (pv 0)) (blkOk_by (N := n_is_part) (sc := defScope s_is_part) (by decide +kernel)) (fun _ _ _ _ _ => (pg_name (i := 2) sc_is_part.nd rfl (Or.inl rfl))) (fun _ _ _ _ _ => pts_nil) (fun _ _ _ _ _ => (pe_call G_is_sign (hr.mono (by omega)) rfl T.g_is_sign T.kp_is_sign b_is_sign .nil pass0 (pa_cons (pv 2) pa_nil)))) pa_nil)))))) pss_nil)
      (pss_cons (ps_if (PW.pt (pw_or (pt_not (pt_val (pe_call G_is_sequence (hr.mono (by omega)) rfl T.g_is_sequence T.kp_is_sequence b_is_sequence .nil pass0 (pa_cons (pv 0) pa_nil)))) (pw_or (pt_cmpR op_ge (pv 1) (pe_gi T.i_MOST_DEPTH) (nomark _)) (pw_or1 (pt_cmpR op_gt (pe_callB call_len_seq rfl T.f_len boot_len (pa_cons (pv 0) pa_nil)) (pe_gi T.i_MOST_PARTS) (nomark _)))))) (pss_one (ps_ret pe_bl)) pss_nil)
      (pss_one (ps_ret (pe_callB (cr_all rfl) rfl T.f_all boot_all (pa_cons (pe_lc (own := [("part", 3)]) rfl sc_is_part.nd (pi_sqv _ 0) (blkOk_by (N := n_is_part) (sc := defScope s_is_part) (by decide +kernel)) (fun _ _ _ _ _ => (pg_name (i := 3) sc_is_part.nd rfl (Or.inl rfl))) (fun _ _ _ _ _ => pts_nil) (fun _ _ _ _ _ => (pe_call G_is_part (hr.mono (by omega)) rfl T.g_is_part T.kp_is_part b_is_part .nil pass0 (pa_cons (pv 3) (pa_cons (pe_op op_add (pv 1) pe_int) pa_nil))))) pa_nil)))))))), ?_⟩
    have k0 := k H (Same.refl _)
    have sm := hv.smp
    cases sm with
    | non => exact ⟨_, rfl, rfl, _, rfl, iteT k0⟩
    | int i =>
      have hi : i.natAbs < 256 ^ 8 := by
        rcases hv with hv | ⟨_, _, _, e, _⟩
        · cases hv
          simpa [okD] using hd
        · cases e
      refine ⟨_, rfl, rfl, _, rfl, iteF ⟨_, rfl, _, rfl, .int _, _, rfl, iteT ?_⟩⟩
      have big := big
      refine ⟨_, rfl, _, rfl, _, _, rfl, rfl, _, rfl, ?_⟩
      have e1 : decide (-(2 ^ 1600 : Int) ≤ i) = true := decide_eq_true (by omega)
      have e2 : decide (i < (2 ^ 1600 : Int)) = true := decide_eq_true (by omega)
      rw [e1]
      have k1 : Q (.bl (decide (i < (2 ^ 1600 : Int)))) H := by rw [e2]; exact k0
      exact iteT ⟨_, _, rfl, rfl, k1⟩
    | str x =>
      have hx : x.length ≤ 20 ∧ ∀ c ∈ x.cps.toList, sg.contains c = true := by
        rcases hv with hv | ⟨_, _, _, e, _⟩
        · cases hv
          simpa only [okD, Bool.and_eq_true, decide_eq_true_eq, List.all_eq_true] using hd
        · cases e
      have hsz : x.cps.size = x.length := rfl
      refine ⟨_, rfl, rfl, _, rfl, iteF ⟨_, rfl, _, rfl, .str _, _, rfl, iteF ⟨_, rfl, _, rfl, .str _, _, rfl, iteT ?_⟩⟩⟩
      refine ⟨_, rfl, x, rfl, sz16 (by omega), _, _, rfl, rfl, _, rfl, ?_⟩
      have e1 : decide ((x.length : Int) ≤ 4095) = true := decide_eq_true (by omega)
      rw [e1]
      refine iteT (cb1 (lc_sgn (fun _ => False) rfl no_ex (Nat.lt_of_lt_of_le (show x.length < 16777216 by omega) (sz16 (Nat.le_refl _))) (fun j acc _ => acc = List.replicate j (V.bl true)) (fun _ _ => rfl) (fun _ _ _ _ _ _ _ _ e => e) ?_ ?_))
      · rintro j c acc H1 hc s1 hl ea Q1 hq
        have hc' : c ∈ x.cps.toList := List.mem_of_getElem? hc
        refine ⟨_, rfl, c, rfl, ?_⟩
        rw [hx.2 c hc']
        exact hq _ _ (Sx.refl _ _) (by rw [ea, List.replicate_succ'])
      · rintro D acc H' hl s1 hD ea
        have k2 := k H' s1.same
        refine ⟨D, List.replicate x.length true, rfl, SqL.of (by rw [hD, ea, all_true]), ?_⟩
        rw [all_id]
        exact k2
    | @seq a xs e =>
      obtain ⟨ds, m', rfl, rfl, hr', hd'⟩ := hv.split hd e
      have hs := e
      have hl := hr'.len
      refine ⟨_, rfl, rfl, _, rfl, iteF ⟨_, rfl, _, rfl, .seq hs, _, rfl, iteF ⟨_, rfl, _, rfl, .seq hs, _, rfl, iteF ?_⟩⟩⟩
      refine ⟨_, rfl, _, rfl, .seq hs, fun H1 s1 => ⟨_, rfl, ?_⟩⟩
      have hs1 := hs.up s1
      refine iteF ⟨_, rfl, _, _, rfl, rfl, _, rfl, ?_⟩
      have e1 : decide ((40 : Int) ≤ dp) = false := decide_eq_false (by omega)
      rw [e1]
      refine iteF ⟨_, rfl, a, xs, rfl, hs1.sq, _, _, rfl, rfl, _, rfl, ?_⟩
      have e2 : decide ((4095 : Int) < (xs.length : Int)) = false := decide_eq_false (by omega)
      rw [e2]
      refine iteF (cb1 (lc_sq (fun _ => False) rfl hs1 no_ex id (Nat.lt_of_lt_of_le (show xs.length < 16777216 by omega) (sz16 (Nat.le_refl _))) (fun j acc _ => acc = List.replicate j (V.bl true)) (fun _ _ => rfl) (fun _ _ _ _ _ _ _ _ e => e) ?_ ?_))
      · rintro j u acc H2 hj s2 hl2 ea Q1 hq
        obtain ⟨d, hdj, hu⟩ := hr'.get hj
        have hu2 := (hu.up (same_ts s1)).up (same_ts s2.same)
        refine ⟨_, rfl, _, rfl, _, _, rfl, rfl, _, _, rfl, d, m', .inl hu2, okAll_mem hd'.2 d (List.mem_of_getElem? hdj), by omega, by omega, fun H3 s3 => ?_⟩
        exact hq _ _ (sx_same s3) (by rw [ea, List.replicate_succ'])
      · rintro D acc H' hl2 s2 hD ea
        have k2 := k H' (s1.trans s2.same)
        refine ⟨D, List.replicate xs.length true, rfl, SqL.of (by rw [hD, ea, all_true]), ?_⟩
        rw [all_id]
        exact k2
theorem ok_as_value (T : Tx P K mg) : ∀ n : Nat, Has P w K mg base CX0 (n + 2) (He.ga K "as_value") p_as_value (spAs n)
  | 0 => by
    obtain ⟨fd, F, b⟩ := T.d_as_value
    exact ⟨fd, F.ok sc_as_value (fun vs H Q E ⟨v, e, _⟩ => by rw [e]; rfl) (fun cdv A outer s H vs Q E hr ⟨v, e, d, m, _, _, h, _⟩ => absurd h (Nat.not_lt_zero _)), b⟩
  | n + 1 => by
    obtain ⟨_, G_is_sequence, b_is_sequence⟩ := ok_is_sequence (w := w) (base := base) T
    obtain ⟨_, G_as_value, b_as_value⟩ := ok_as_value T n
    obtain ⟨fd, F, b⟩ := T.d_as_value
    refine ⟨fd, F.ok sc_as_value (fun vs H Q E ⟨v, e, _⟩ => by rw [e]; rfl) (fun cdv A outer s H vs Q E hr h => ?_), b⟩
    obtain ⟨v, rfl, d, m, hv, hd, hm, k⟩ := h
    refine ⟨_, PSs.nox (pss_one (ps_ret (pe_ifExp (pt_val (pe_call G_is_sequence (hr.mono (by omega)) rfl T.g_is_sequence T.kp_is_sequence b_is_sequence .nil pass0 (pa_cons (pv 0) pa_nil))) (pe_callTy call_tuple_of rfl T.f_tuple boot_tuple (pa_cons (pe_lc (own := [("part", 1)]) rfl sc_as_value.nd (pi_sqv _ 0) (blkOk_by (N := n_as_value) (sc := defScope s_as_value) (by decide +kernel)) (fun _ _ _ _ _ => (pg_name (i := 1) sc_as_value.nd rfl (Or.inl rfl))) (fun _ _ _ _ _ => pts_nil) (fun _ _ _ _ _ => (pe_call G_as_value (hr.mono (by omega)) rfl T.g_as_value T.kp_as_value b_as_value .nil pass0 (pa_cons (pv 1) pa_nil)))) pa_nil)) (pv 0)))), ?_⟩
    refine ⟨_, rfl, v, rfl, hv.smp, fun H1 s1 => ⟨_, rfl, ?_⟩⟩
    cases hc : isR v with
    | false => exact iteF ⟨v, rfl, k v H1 s1 ((hv.rp hc).up (same_ts s1))⟩
    | true =>
      obtain ⟨a, rfl⟩ : ∃ a, v = .ref a := by
        cases v <;> first | exact ⟨_, rfl⟩ | cases hc
      obtain ⟨xs, hs⟩ : ∃ xs, Sq H a xs := by
        have q := hv.smp
        cases q with
        | seq e => exact ⟨_, e⟩
      obtain ⟨ds, m', rfl, rfl, hr', hl, hd'⟩ := hv.split hd hs
      have hlen := hr'.len
      refine iteT (cb1 (lc_sq (fun _ => False) rfl (hs.up s1) no_ex id (Nat.lt_of_lt_of_le (show xs.length < 16777216 by omega) (sz16 (Nat.le_refl _))) (fun j acc H' => RpAll H' acc (ds.take j)) (fun _ _ => .nil) (fun _ _ _ _ _ _ _ h1 h2 => h2.up (up_lst h1)) ?_ ?_))
      · rintro j u acc H2 hj s2 hl2 ea Q1 hq
        obtain ⟨d, hdj, hu⟩ := hr'.get hj
        have hu2 := (hu.up (same_ts s1)).up (same_ts s2.same)
        refine ⟨_, rfl, _, rfl, d, m', .inl hu2, okAll_mem hd' d (List.mem_of_getElem? hdj), by omega, fun v' H3 s3 h3 => ?_⟩
        exact hq _ _ (sx_same s3) (by rw [take_snoc hdj]; exact (ea.up (same_ts s3)).app (RpAll.one h3))
      · rintro D acc H' hl2 s2 hD ea
        rw [List.take_of_length_le (by omega)] at ea
        exact ⟨D, acc, rfl, .inl ⟨SqL.of hD, fun p hp => k _ _ ((s1.trans s2.same).trans (same_upd hp)) (.tup upd_same (ea.up (same_ts (same_upd hp))))⟩⟩
theorem ok_need_row (T : Tx P K mg) : Has P w K mg base CX0 8 (He.ga K "need_row") p_need_row spNeed := by
  obtain ⟨_, G_is_sequence, b_is_sequence⟩ := ok_is_sequence (w := w) (base := base) T
  obtain ⟨_, G_is_text, b_is_text⟩ := ok_is_text (w := w) (base := base) T
  obtain ⟨fd, F, b⟩ := T.d_need_row
  refine ⟨fd, F.ok sc_need_row (fun vs H Q E ⟨v, e, _⟩ => by rw [e]; rfl) (fun cdv A outer s H vs Q E hr h => ?_), b⟩
  obtain ⟨_, G_is_part, b_is_part⟩ := ok_is_part (w := w) (base := base) T 3
  obtain ⟨_, G_as_value, b_as_value⟩ := ok_as_value (w := w) (base := base) T 4
  obtain ⟨v, rfl, z, ds, hv, hd, k⟩ := h
  obtain ⟨a, xs, rfl, hs, hr'⟩ := hv.seq
  obtain ⟨ds', m', e1, e2, _, hl, hd'⟩ := hv.split hd hs
  cases e1
  cases e2
  have hlen := hr'.len
  have hx0 : xs.length = ds.length + 1 := hlen
  have hl0 : ds.length + 1 ≤ 20 := hl
  refine ⟨_, PSs.nox (pss_cons (ps_if (PW.pt (pw_or (pt_not (pt_val (pe_call G_is_sequence (hr.mono (by decide)) rfl T.g_is_sequence T.kp_is_sequence b_is_sequence .nil pass0 (pa_cons (pv 0) pa_nil)))) (pw_or (pt_cmpR op_eq (pe_callB call_len_seq rfl T.f_len boot_len (pa_cons (pv 0) pa_nil)) pe_int (nomark _)) (pw_or1 (pt_cmpR op_gt (pe_callB call_len_seq rfl T.f_len boot_len (pa_cons (pv 0) pa_nil)) (pe_gi T.i_MOST_PARTS) (nomark _)))))) (pss_one ps_never) pss_nil)
      (pss_cons (ps_for PassesOwn.never rfl (pi_env _ 0 rfl T.f_enumerate) (pg_tup rfl (pgs_cons (pg_name (i := 1) sc_need_row.nd rfl (Or.inl rfl)) (pgs_cons (pg_name (i := 2) sc_need_row.nd rfl (Or.inl rfl)) pgs_nil))) (pss_one (ps_if (PW.pt (pw_or (pt_not (pt_val (pe_call G_is_part (hr.mono (by decide)) rfl T.g_is_part T.kp_is_part b_is_part .nil pass0 (pa_cons (pv 2) (pa_cons pe_int pa_nil))))) (pw_or1 (PW.pt (pw_and (pt_cmpR op_eq (pv 1) pe_int (nomark _)) (pw_and1 (pt_not (pt_val (pe_call G_is_text (hr.mono (by decide)) rfl T.g_is_text T.kp_is_text b_is_text .nil pass0 (pa_cons (pv 2) pa_nil)))))))))) (pss_one ps_never) pss_nil)))
      (pss_one (ps_ret (pe_call G_as_value (hr.mono (by decide)) rfl T.g_as_value T.kp_as_value b_as_value .nil pass0 (pa_cons (pv 0) pa_nil)))))), ?_⟩
  refine ⟨_, rfl, _, rfl, .seq hs, fun H1 s1 => ⟨_, rfl, ?_⟩⟩
  have hs1 := hs.up s1
  refine iteF ⟨_, rfl, a, xs, rfl, hs1.sq, rfl, _, rfl, ?_⟩
  have e1 : decide (V.int (xs.length : Int) = V.int 0) = false := decide_eq_false (fun z => by have := V.int.inj z; omega)
  rw [e1]
  refine iteF ⟨_, rfl, a, xs, rfl, hs1.sq, _, _, rfl, rfl, _, rfl, ?_⟩
  have e2 : decide ((4095 : Int) < (xs.length : Int)) = false := decide_eq_false (by omega)
  rw [e2]
  refine iteF (for_env (a := a) (xs := xs) rfl hs1 (fun j σ' H' => Same H1 H' ∧ ∃ u v, σ' = [some (.ref a), u, v]) ⟨Same.refl _, none, none, rfl⟩ (fun j σ' H' _ h => h.1) ?_ ?_)
  · rintro j x σ' H' t hj ⟨s2, u, v, rfl⟩ ht
    obtain ⟨d, hdj, hx⟩ := hr'.get hj
    have s3 := same_tup s2 ht (xs := [.int (j : Nat), x])
    have hx3 := hx.up (same_ts (s1.trans s3))
    refine ⟨t, _, rfl, SqT.of upd_same, rfl, _, _, rfl, _, _, rfl, rfl, ?_⟩
    refine ⟨_, rfl, _, _, rfl, d, 2, .inl hx3, okAll_mem hd' d (List.mem_of_getElem? hdj), by omega, by omega, fun H4 s4 => ⟨_, rfl, iteF ⟨_, rfl, rfl, _, rfl, ?_⟩⟩⟩
    cases j with
    | zero =>
      have ed : d = .str z := (Option.some.inj hdj).symm
      subst ed
      cases hx3
      have e3 : decide (V.int ((0 : Nat) : Int) = V.int 0) = true := rfl
      rw [e3]
      exact iteT ⟨_, rfl, _, rfl, .str _, _, rfl, iteF ⟨s3.trans s4, _, _, rfl⟩⟩
    | succ j =>
      have e3 : decide (V.int ((j + 1 : Nat) : Int) = V.int 0) = false := decide_eq_false (fun z => by have := V.int.inj z; omega)
      rw [e3]
      exact iteF (iteF ⟨s3.trans s4, _, _, rfl⟩)
  · rintro σ' H' ⟨s2, u, v, rfl⟩
    have s := s1.trans s2
    exact ⟨_, rfl, _, rfl, _, 3, hv.up s, hd, by omega, fun v' H'' s3 h3 => k v' H'' (s.trans s3) h3⟩
end
end K53

set_option Elab.async false
set_option linter.all false
set_option maxRecDepth 100000
set_option maxHeartbeats 4000000
/-! what is written -/
namespace K53
open PySem PySem.Spec PyProof.Rows L2
def spFigs : Sp := fun vs H Q _ => ∃ n : Nat, vs = [.int (n : Int)] ∧ n < 256 ^ 8 ∧ RT (nts (figs n)) H Q
def spNum : Sp := fun vs H Q _ => ∃ n : Nat, vs = [.int (n : Int)] ∧ n < 256 ^ 8 ∧ RT (nts (numF n)) H Q
def spWr (n : Nat) : Sp := fun vs H Q _ => ∃ v, vs = [v] ∧ ∃ d m, Rp H v d ∧ okD d m = true ∧ m < n ∧ m ≤ 3 ∧ RT (nts (form d)) H Q
def spRow : Sp := fun vs H Q _ => ∃ v, vs = [v] ∧ ∃ s ds, Rq H v (.tuple (.str s :: ds)) ∧ okD (.tuple (.str s :: ds)) 3 = true ∧ RT (nts (form (.tuple (.str s :: ds)))) H Q
theorem nts_append (l m : List Nat) : nts (l ++ m) = nts l ++ nts m := List.map_append
theorem rt_mono {xs : List V} {H : Hp} {Q Q' : VK} (k : RT xs H Q) (h : ∀ v H', Q v H' → Q' v H') : RT xs H Q' := fun p H' s e => h _ _ (k p H' s e)
theorem sg_index : sg.all (fun c => (Builtin.Str.occurrences sgS ⟨#[c]⟩ 0 sgS.length 1).head? == some (idx c)) = true := by decide +kernel
theorem sg_at {c : Nat} (h : sg.contains c = true) : ∃ rest, Builtin.Str.occurrences sgS ⟨#[c]⟩ 0 sgS.length 1 = idx c :: rest := by
  have h1 := List.all_eq_true.mp sg_index c (by simpa using h)
  have h2 : (Builtin.Str.occurrences sgS ⟨#[c]⟩ 0 sgS.length 1).head? = some (idx c) := by simpa using h1
  cases e : Builtin.Str.occurrences sgS ⟨#[c]⟩ 0 sgS.length 1 with
  | nil => rw [e] at h2; cases h2
  | cons x r => rw [e] at h2; exact ⟨r, by rw [Option.some.inj h2]⟩
theorem sz1 : 1 ≤ sizeLine := sz16 (by decide)
section
variable {P : Program} {w : World} {K : PySem.W.Frag} {mg : Str → Option Value} {base : Heap}
theorem ok_figures_of (T : Tx P K mg) : Has P w K mg base CX0 2 (He.ga K "figures_of") p_figures_of spFigs := by
  obtain ⟨fd, F, b⟩ := T.d_figures_of
  refine ⟨fd, F.ok sc_figures_of (fun vs H Q E ⟨n, e, _⟩ => by rw [e]; rfl) (fun cdv A outer s H vs Q E hr h => ?_), b⟩
  obtain ⟨n, rfl, hn, k⟩ := h
  refine ⟨_, PSs.nox (pss_cons (ps_set (i := 1) sc_figures_of.nd rfl (Or.inl rfl) (pe_lst pa_nil))
      (pss_cons (ps_while PassesOwn.never (pt_cmpR op_gt (pv 0) pe_int (nomark _)) (pss_cons (ps_expr (pe_bm PySem.F.plainAttrs_list PySem.F.slot_list_append PySem.F.type_list_append mt_append (pv 1) (pa_cons (pe_op op_mod (pv 0) (pe_gi T.i_MOST_OCTET)) pa_nil)))
      (pss_one (ps_aug (i := 0) sc_figures_of.nd rfl (Or.inl rfl) (pe_gi T.i_MOST_OCTET) ip_fdiv))))
      (pss_one (ps_ret (pe_callTy call_tuple_of rfl T.f_tuple boot_tuple (pa_cons (pe_revL (pv 1)) pa_nil)))))), ?_⟩
  refine ⟨by rw [sizeLine_eq]; decide, fun l hl => ?_⟩
  refine ⟨fun m σ' H' => ∃ acc, σ' = [some (.int (m : Int)), some (.ref l)] ∧ m ≤ n ∧ Sx (fun _ => False) H H' ∧ H' l = some (.lst (nts acc)) ∧ figs n = figs m ++ acc.reverse, ⟨n, [], rfl, Nat.le_refl _, sx_upd (Sx.refl _ _) hl, upd_same, by simp⟩, ?_⟩
  rintro m σ' H' ⟨acc, rfl, hm, s, hL, hf⟩
  refine ⟨_, rfl, _, _, rfl, rfl, _, rfl, ?_⟩
  have h8 : acc.length ≤ 8 := by
    have := figs_len hn
    rw [hf, List.length_append, List.length_reverse] at this
    omega
  by_cases h0 : m = 0
  · subst h0
    rw [decide_eq_false (by simp)]
    refine iteF ?_
    refine ⟨_, rfl, l, _, rfl, SqL.of hL, fun p hp => ⟨p, _, rfl, .inl ⟨SqL.of upd_same, fun q hq => ?_⟩⟩⟩
    rw [figs_zero, List.nil_append] at hf
    have e : (nts acc).reverse = nts (figs n) := by rw [hf, nts, nts, List.map_reverse]
    rw [e] at hq ⊢
    have hq2 : H' q = none := by
      by_cases z : q = p
      · rw [z]; exact hp
      · rw [upd_ne z] at hq; exact hq
    exact k _ _ ((s.same.trans (same_upd hp)).trans (same_upd hq)) upd_same
  · rw [decide_eq_true (by omega)]
    refine iteT ⟨fun σ2 H2 => ∃ acc, σ2 = [some (.int ((m / 256 : Nat) : Int)), some (.ref l)] ∧ m / 256 ≤ n ∧ Sx (fun _ => False) H H2 ∧ H2 l = some (.lst (nts acc)) ∧ figs n = figs (m / 256) ++ acc.reverse, fun σ2 H2 h2 => ⟨m / 256, by omega, h2⟩, ?_⟩
    refine ⟨_, rfl, .inl ⟨rfl, _, SqL.of hL⟩, _, rfl, _, _, rfl, rfl, (by show (0 : Int) < 256; decide), l, _, _, rfl, rfl, hL, by rw [nts_len]; exact Nat.lt_of_le_of_lt h8 (Nat.lt_of_lt_of_le (by decide : 8 < 16777216) (sz16 (Nat.le_refl _))), ?_⟩
    refine ⟨_, rfl, _, _, rfl, rfl, ⟨by decide, by decide⟩, acc ++ [m % 256], rfl, by omega, sx_upd s hl, ?_, ?_⟩
    · rw [upd_same, nts_append]
      rfl
    · rw [hf, figs_pos h0, List.reverse_append]
      simp
theorem ok_number_form (T : Tx P K mg) : Has P w K mg base CX0 3 (He.ga K "number_form") p_number_form spNum := by
  obtain ⟨_, G_figures_of, b_figures_of⟩ := ok_figures_of (w := w) (base := base) T
  obtain ⟨fd, F, b⟩ := T.d_number_form
  refine ⟨fd, F.ok sc_number_form (fun vs H Q E ⟨n, e, _⟩ => by rw [e]; rfl) (fun cdv A outer s H vs Q E hr h => ?_), b⟩
  obtain ⟨n, rfl, hn, k⟩ := h
  refine ⟨_, PSs.nox (pss_cons (ps_set (i := 1) sc_number_form.nd rfl (Or.inl rfl) (pe_call G_figures_of (hr.mono (by decide)) rfl T.g_figures_of T.kp_figures_of b_figures_of .nil pass0 (pa_cons (pv 0) pa_nil)))
      (pss_one (ps_ret (pe_op op_catA (pe_tup (pa_cons (pe_callB call_len_seq rfl T.f_len boot_len (pa_cons (pv 1) pa_nil)) pa_nil)) (pv 1))))), ?_⟩
  refine ⟨_, rfl, n, rfl, hn, fun p H1 s1 h1 => ?_⟩
  have hl := figs_len hn
  refine ⟨_, rfl, p, _, rfl, .inr (SqT.of h1), sz1, fun q hq => ⟨_, rfl, ?_⟩⟩
  refine cat_of upd_same (same_upd hq _ _ h1) ?_ ?_
  · rw [nts_len]; exact sz16 (by simp; omega)
  · have e : [V.int ((nts (figs n)).length : Int)] ++ nts (figs n) = nts (numF n) := by rw [nts_len]; rfl
    rw [e]
    exact k.of_same (s1.trans (same_upd hq))
theorem ok_written (T : Tx P K mg) : ∀ n : Nat, Has P w K mg base CX0 (n + 5) (He.ga K "written") p_written (spWr n)
  | 0 => by
    obtain ⟨fd, F, b⟩ := T.d_written
    exact ⟨fd, F.ok sc_written (fun vs H Q E ⟨v, e, _⟩ => by rw [e]; rfl) (fun cdv A outer s H vs Q E hr ⟨v, e, d, m, _, _, h, _⟩ => absurd h (Nat.not_lt_zero _)), b⟩
  | n + 1 => by
    obtain ⟨_, G_is_integer, b_is_integer⟩ := ok_is_integer (w := w) (base := base) T
    obtain ⟨_, G_is_text, b_is_text⟩ := ok_is_text (w := w) (base := base) T
    obtain ⟨_, G_number_form, b_number_form⟩ := ok_number_form (w := w) (base := base) T
    obtain ⟨_, G_written, b_written⟩ := ok_written T n
    obtain ⟨fd, F, b⟩ := T.d_written
    refine ⟨fd, F.ok sc_written (fun vs H Q E ⟨v, e, _⟩ => by rw [e]; rfl) (fun cdv A outer s H vs Q E hr h => ?_), b⟩
    obtain ⟨v, rfl, d, m, hv, hd, hm, hm3, k⟩ := h
    obtain ⟨hfl, _⟩ := form_ok d m hd
    have hfl : (form d).length ≤ 625000 := Nat.le_trans hfl (Nat.mul_le_mul_left 40 (Nat.pow_le_pow_right (by decide) hm3))
    refine ⟨_, PSs.nox (pss_cons (ps_if (pt_cmpR op_isN (pv 0) pe_non (nomark _)) (pss_one (ps_ret (pe_tup (pa_cons (pe_gi T.i_NOTHING) pa_nil)))) pss_nil)
      (pss_cons (ps_if (pt_val (pe_call G_is_integer (hr.mono (by omega)) rfl T.g_is_integer T.kp_is_integer b_is_integer .nil pass0 (pa_cons (pv 0) pa_nil))) (pss_one (ps_ret (pe_ifExp (pt_cmpR op_ge (pv 0) pe_int (nomark _)) (pe_op op_catA (pe_tup (pa_cons (pe_gi T.i_NUMBER) pa_nil)) (pe_call G_number_form (hr.mono (by omega)) rfl T.g_number_form T.kp_number_form b_number_form .nil pass0 (pa_cons (pv 0) pa_nil))) (pe_op op_catA (pe_tup (pa_cons (pe_gi T.i_BELOW) pa_nil)) (pe_call G_number_form (hr.mono (by omega)) rfl T.g_number_form T.kp_number_form b_number_form .nil pass0 (pa_cons (pe_op op_sub (pe_un un_neg pe_int) (pv 0)) pa_nil)))))) pss_nil)
      (pss_cons (ps_if (pt_val (pe_call G_is_text (hr.mono (by omega)) rfl T.g_is_text T.kp_is_text b_is_text .nil pass0 (pa_cons (pv 0) pa_nil))) (pss_one (ps_ret (pe_op op_catA (pe_op op_catA (pe_tup (pa_cons (pe_gi T.i_TEXT) pa_nil)) (pe_call G_number_form (hr.mono (by omega)) rfl T.g_number_form T.kp_number_form b_number_form .nil pass0 (pa_cons (pe_callB call_len_str rfl T.f_len boot_len (pa_cons (pv 0) pa_nil)) pa_nil))) (pe_callTy call_tuple_of rfl T.f_tuple boot_tuple (pa_cons (pe_lc (own := [("sign", 3)]) rfl sc_written.nd (pi_str (pv 0)) (blkOk_by (N := n_written) (sc := defScope s_written) (by decide +kernel)) (fun _ _ _ _ _ => (pg_name (i := 3) sc_written.nd rfl (Or.inl rfl))) (fun _ _ _ _ _ => pts_nil) (fun _ _ _ _ _ => (pe_m1 PySem.F.slot_str_index PySem.F.type_str_index mt_sindex (pe_gs T.s_SIGNS) (pv 3)))) pa_nil))))) pss_nil)
      (pss_cons (ps_set (i := 1) sc_written.nd rfl (Or.inl rfl) (pe_op op_cat (pe_lst (pa_cons (pe_gi T.i_ROW) pa_nil)) (pe_callTy call_list_of rfl T.f_list boot_list (pa_cons (pe_call G_number_form (hr.mono (by omega)) rfl T.g_number_form T.kp_number_form b_number_form .nil pass0 (pa_cons (pe_callB call_len_seq rfl T.f_len boot_len (pa_cons (pv 0) pa_nil)) pa_nil)) pa_nil))))
      (pss_cons (ps_for PassesOwn.never rfl (pi_tup (pv 0)) (pg_name (i := 2) sc_written.nd rfl (Or.inl rfl)) (pss_one (ps_expr (pe_bm PySem.F.plainAttrs_list PySem.F.slot_list_extend PySem.F.type_list_extend mt_extT (pv 1) (pa_cons (pe_call G_written (hr.mono (by omega)) rfl T.g_written T.kp_written b_written .nil pass0 (pa_cons (pv 2) pa_nil)) pa_nil)))))
      (pss_one (ps_ret (pe_callTy call_tuple_of rfl T.f_tuple boot_tuple (pa_cons (pv 1) pa_nil))))))))), ?_⟩
    cases hv with
    | non =>
      exact ⟨_, rfl, rfl, _, rfl, iteT ⟨sz1, fun p hp => k p _ (same_upd hp) upd_same⟩⟩
    | int i =>
      have hi : i.natAbs < 256 ^ 8 := by simpa [okD] using hd
      refine ⟨_, rfl, rfl, _, rfl, iteF ⟨_, rfl, _, rfl, .int _, _, rfl, iteT ⟨_, rfl, _, _, rfl, rfl, _, rfl, ?_⟩⟩⟩
      by_cases h0 : 0 ≤ i
      · rw [decide_eq_true h0]
        obtain ⟨z, rfl⟩ : ∃ z : Nat, i = (z : Int) := ⟨i.toNat, by omega⟩
        have hz : z < 256 ^ 8 := by omega
        refine iteT ⟨sz1, fun p hp => ⟨_, rfl, z, rfl, hz, fun q H1 s1 h1 => ?_⟩⟩
        refine cat_of (s1 _ _ upd_same) h1 (by rw [nts_len]; exact sz16 (by have := numF_len hz; simp; omega)) ?_
        have e : [V.int 1] ++ nts (numF z) = nts (form (.int (z : Int))) := by
          unfold form
          rw [if_pos h0]
          rfl
        rw [e]
        exact k.of_same ((same_upd hp).trans s1)
      · rw [decide_eq_false h0]
        obtain ⟨z, hz0⟩ : ∃ z : Nat, -1 - i = (z : Int) := ⟨(-1 - i).toNat, by omega⟩
        have hz : z < 256 ^ 8 := by omega
        refine iteF ⟨sz1, fun p hp => ⟨_, rfl, _, rfl, _, _, rfl, rfl, z, (by show [V.int (-1 - i)] = [V.int (z : Int)]; rw [hz0]), hz, fun q H1 s1 h1 => ?_⟩⟩
        refine cat_of (s1 _ _ upd_same) h1 (by rw [nts_len]; exact sz16 (by have := numF_len hz; simp; omega)) ?_
        have e : [V.int 2] ++ nts (numF z) = nts (form (.int i)) := by
          unfold form
          rw [if_neg h0, hz0]
          rfl
        rw [e]
        exact k.of_same ((same_upd hp).trans s1)
    | str x =>
      have hx : x.length ≤ 20 ∧ ∀ c ∈ x.cps.toList, sg.contains c = true := by
        simpa only [okD, Bool.and_eq_true, decide_eq_true_eq, List.all_eq_true] using hd
      have hx8 : x.length < 256 ^ 8 := by omega
      have hxl : x.cps.toList.length = x.length := by obtain ⟨z⟩ := x; simp [Str.length]
      refine ⟨_, rfl, rfl, _, rfl, iteF ⟨_, rfl, _, rfl, .str _, _, rfl, iteF ⟨_, rfl, _, rfl, .str _, _, rfl, iteT ?_⟩⟩⟩
      refine ⟨sz1, fun p hp => ⟨_, rfl, x, rfl, sz16 (by omega), x.length, rfl, hx8, fun q H1 s1 h1 => ?_⟩⟩
      have hnl := numF_len (n := x.length) (k := 1) (by omega)
      refine cat_of (s1 _ _ upd_same) h1 (by rw [nts_len]; exact sz16 (by simp; omega)) fun q2 H2 s2 h2 => ?_
      have hH2 : Same H H2 := ((same_upd hp).trans s1).trans s2
      refine cb1 (lc_sgn (z := x) (fun _ => False) rfl no_ex (Nat.lt_of_lt_of_le (show x.length < 16777216 by omega) (sz16 (Nat.le_refl _))) (fun j acc _ => acc = nts ((x.cps.toList.take j).map idx)) (fun _ _ => rfl) (fun _ _ _ _ _ _ _ _ e => e) ?_ ?_)
      · rintro j c acc H3 hc s3 hl3 ea Q1 hq
        obtain ⟨rest, hr⟩ := sg_at (hx.2 c (List.mem_of_getElem? hc))
        refine ⟨⟨_, rfl⟩, _, rfl, sgS, ⟨#[c]⟩, idx c, rest, rfl, rfl, hr, ?_⟩
        exact hq _ _ (Sx.refl _ _) (by rw [take_snoc hc, List.map_append, nts_append, ea]; rfl)
      · rintro D acc H3 hl3 s3 hD ea
        rw [List.take_of_length_le (by omega)] at ea
        refine ⟨D, acc, rfl, .inl ⟨SqL.of hD, fun p3 hp3 => ?_⟩⟩
        have s4 : Same H2 (upd H3 p3 (.tup acc)) := s3.same.trans (same_upd hp3)
        refine cat_of (s4 _ _ h2) upd_same ?_ ?_
        · rw [hl3]; exact sz16 (by rw [List.length_append, nts_len]; simp; omega)
        · have e : [V.int 3] ++ nts (numF x.length) ++ acc = nts (form (.str x)) := by
            rw [ea]
            unfold form
            show _ = nts ([3] ++ (numF x.length ++ _))
            rw [nts_append, nts_append, List.append_assoc]
            rfl
          rw [e]
          exact k.of_same (hH2.trans s4)
    | @tup a xs ds e r =>
      cases m with
      | zero => simp [okD] at hd
      | succ m' =>
      have hd' : ds.length ≤ 20 ∧ okAll ds m' = true := by simpa [okD] using hd
      have hl := r.len
      have hx8 : xs.length < 256 ^ 8 := by omega
      refine ⟨_, rfl, rfl, _, rfl, iteF ⟨_, rfl, _, rfl, .seq (.inr e), _, rfl, iteF ⟨_, rfl, _, rfl, .seq (.inr e), _, rfl, iteF ?_⟩⟩⟩
      have hnl := numF_len (n := xs.length) (k := 1) (by omega)
      refine ⟨sz1, fun l1 hl1 => ⟨_, rfl, a, xs, rfl, .inr (SqT.of (same_upd hl1 _ _ e)), xs.length, rfl, hx8, fun q H1 s1 h1 => ⟨q, _, rfl, .inr (SqT.of h1), fun l2 hl2 => ?_⟩⟩⟩
      refine ⟨l1, l2, _, _, rfl, rfl, same_upd hl2 _ _ (s1 _ _ upd_same), upd_same, by rw [nts_len]; exact sz16 (by simp; omega), fun L hL => ?_⟩
      have s2 : Same H (upd H1 l2 (.lst (nts (numF xs.length)))) := ((same_upd hl1).trans s1).trans (same_upd hl2)
      have hx0 : Same H (upd (upd H1 l2 (.lst (nts (numF xs.length)))) L (.lst ([V.int 4] ++ nts (numF xs.length)))) := s2.trans (same_upd hL)
      refine ⟨_, rfl, a, rfl, ⟨xs, SqT.of (hx0 _ _ e)⟩, for_tup (K := K) (a := a) (xs := xs) (fun j σ' H' => (∃ u, σ' = [some (.ref a), some (.ref L), u, none]) ∧ Same H H' ∧ H' L = some (.lst (nts (4 :: (numF xs.length ++ formAll (ds.take j))))))
        ⟨⟨none, rfl⟩, hx0, by rw [upd_same, show ds.take 0 = [] from rfl]; unfold formAll; rw [List.append_nil]; rfl⟩ (fun j σ' H' _ h => SqT.of (h.2.1 _ _ e)) ?_ ?_⟩
      · rintro j x σ' H' hj ⟨⟨u, rfl⟩, s3, h3⟩
        obtain ⟨d, hdj, hx⟩ := r.get hj
        refine ⟨_, rfl, .inl ⟨rfl, _, SqL.of h3⟩, _, rfl, _, rfl, d, m', hx.up (same_ts s3), okAll_mem hd'.2 d (List.mem_of_getElem? hdj), by omega, by omega, fun q4 H4 s4 h4 => ?_⟩
        have tk : formAll (ds.take (j + 1)) = formAll (ds.take j) ++ form d := by rw [take_snoc hdj, formAll_snoc]
        have e5 : nts (4 :: (numF xs.length ++ formAll (ds.take j))) ++ nts (form d) = nts (4 :: (numF xs.length ++ formAll (ds.take (j + 1)))) := by
          rw [← nts_append, tk, List.cons_append, List.append_assoc]
        refine ⟨L, q4, _, _, rfl, rfl, s4 _ _ h3, SqT.of h4, ?_, ⟨_, rfl⟩, ?_, ?_⟩
        · rw [← List.length_append, e5, nts_len]
          have : (formAll (ds.take (j + 1))).length ≤ (formAll ds).length := by
            conv => rhs; rw [← List.take_append_drop (j + 1) ds, formAll_append, List.length_append]
            omega
          have h6 : (form (.tuple ds)).length = 1 + ((numF ds.length).length + (formAll ds).length) := by
            unfold form
            rw [List.length_cons, List.length_append]
            omega
          have h7 : (numF xs.length).length = (numF ds.length).length := by rw [hl]
          exact sz16 (by simp; omega)
        · intro b o hb
          have nb : b ≠ L := fun z => by
            have := hL
            rw [← z, s2 _ _ hb] at this
            cases this
          rw [upd_ne nb]
          exact s4 _ _ (s3 _ _ hb)
        · rw [upd_same, e5]
      · rintro σ' H' ⟨⟨u, rfl⟩, s3, h3⟩
        refine ⟨_, rfl, L, _, rfl, .inl ⟨SqL.of h3, fun p hp => ?_⟩⟩
        have e6 : nts (4 :: (numF xs.length ++ formAll (ds.take xs.length))) = nts (form (.tuple ds)) := by
          rw [List.take_of_length_le (by omega), hl]
          unfold form
          rfl
        rw [e6]
        exact k p _ (s3.trans (same_upd hp)) upd_same
theorem ok_write_row (T : Tx P K mg) : Has P w K mg base CX0 10 (He.ga K "write_row") p_write_row spRow := by
  obtain ⟨_, G_need_row, b_need_row⟩ := ok_need_row (w := w) (base := base) T
  obtain ⟨fd, F, b⟩ := T.d_write_row
  refine ⟨fd, F.ok sc_write_row (fun vs H Q E ⟨v, e, _⟩ => by rw [e]; rfl) (fun cdv A outer s H vs Q E hr h => ?_), b⟩
  obtain ⟨_, G_written, b_written⟩ := ok_written (w := w) (base := base) T 4
  obtain ⟨v, rfl, z, ds, hv, hd, k⟩ := h
  refine ⟨_, PSs.nox (pss_one (ps_ret (pe_call G_written (hr.mono (by decide)) rfl T.g_written T.kp_written b_written .nil pass0 (pa_cons (pe_call G_need_row (hr.mono (by decide)) rfl T.g_need_row T.kp_need_row b_need_row .nil pass0 (pa_cons (pv 0) pa_nil)) pa_nil)))), ?_⟩
  exact ⟨_, rfl, v, rfl, z, ds, hv, hd, fun v' H' s h => ⟨v', rfl, _, 3, h, hd, by omega, by omega, k.of_same s⟩⟩
end
end K53

set_option Elab.async false
set_option linter.all false
set_option maxRecDepth 100000
set_option maxHeartbeats 4000000
/-! a Reading: what it takes -/
namespace K53
open PySem PySem.Spec PyProof.Rows L2
/-! ### its fields -/
theorem f12 : ¬ (("octets" : Str) = "at") := by decide +kernel
theorem f13 : ¬ (("octets" : Str) = "heals") := by decide +kernel
theorem f14 : ¬ (("octets" : Str) = "extra") := by decide +kernel
theorem f23 : ¬ (("at" : Str) = "heals") := by decide +kernel
theorem f24 : ¬ (("at" : Str) = "extra") := by decide +kernel
theorem f34 : ¬ (("heals" : Str) = "extra") := by decide +kernel
def rf (o : Addr) (a : Int) (e : Addr) : List (Str × V) := [("octets", .ref o), ("at", .int a), ("heals", .bl false), ("extra", .ref e)]
theorem rf_eq (o : Addr) (a : Int) (e : Addr) : putF "extra" (.ref e) (putF "heals" (.bl false) (putF "at" (.int a) (putF "octets" (.ref o) []))) = rf o a e := by
  have e1 : putF "at" (.int a) (putF "octets" (.ref o) []) = [(("octets" : Str), V.ref o), (("at" : Str), V.int a)] := by
    show (if ("octets" : Str) = "at" then _ else (("octets" : Str), V.ref o) :: [(("at" : Str), V.int a)]) = _
    rw [if_neg f12]
  have e2 : putF "heals" (.bl false) [(("octets" : Str), V.ref o), (("at" : Str), V.int a)] = [(("octets" : Str), V.ref o), (("at" : Str), V.int a), (("heals" : Str), V.bl false)] := by
    show (if ("octets" : Str) = "heals" then _ else (("octets" : Str), V.ref o) :: (if ("at" : Str) = "heals" then _ else (("at" : Str), V.int a) :: [(("heals" : Str), V.bl false)])) = _
    rw [if_neg f13, if_neg f23]
  rw [e1, e2]
  show (if ("octets" : Str) = "extra" then _ else (("octets" : Str), V.ref o) :: (if ("at" : Str) = "extra" then _ else (("at" : Str), V.int a) :: (if ("heals" : Str) = "extra" then _ else (("heals" : Str), V.bl false) :: [(("extra" : Str), V.ref e)]))) = _
  rw [if_neg f14, if_neg f24, if_neg f34]
  rfl
theorem rf_at (o : Addr) (a b : Int) (e : Addr) : putF "at" (.int b) (rf o a e) = rf o b e := by
  show (if ("octets" : Str) = "at" then _ else (("octets" : Str), V.ref o) :: (if ("at" : Str) = "at" then (("at" : Str), V.int b) :: [(("heals" : Str), V.bl false), (("extra" : Str), V.ref e)] else _)) = _
  rw [if_neg f12, if_pos rfl]
  rfl
theorem pf_len (f : Str) (v : V) : ∀ l : List (Str × V), (putF f v l).length ≤ l.length + 1
  | [] => Nat.le_refl _
  | q :: l => by
    have := pf_len f v l
    unfold putF
    split
    · simp
    · simp; omega
theorem rf_octets (o : Addr) (a : Int) (e : Addr) : (rf o a e).lookup ("octets" : Str) = some (.ref o) := by
  rw [← rf_eq, lookup_putF, if_neg f14, lookup_putF, if_neg f13, lookup_putF, if_neg f12, lookup_putF, if_pos rfl]
theorem rf_lat (o : Addr) (a : Int) (e : Addr) : (rf o a e).lookup ("at" : Str) = some (.int a) := by
  rw [← rf_eq, lookup_putF, if_neg f24, lookup_putF, if_neg f23, lookup_putF, if_pos rfl]
theorem rf_heals (o : Addr) (a : Int) (e : Addr) : (rf o a e).lookup ("heals" : Str) = some (.bl false) := by
  rw [← rf_eq, lookup_putF, if_neg f34, lookup_putF, if_pos rfl]
theorem rf_no (o : Addr) (a : Int) (e : Addr) {m : Str} (h1 : ¬ m = "octets") (h2 : ¬ m = "at") (h3 : ¬ m = "heals") (h4 : ¬ m = "extra") : (rf o a e).lookup m = none := by
  rw [← rf_eq, lookup_putF, if_neg h4, lookup_putF, if_neg h3, lookup_putF, if_neg h2, lookup_putF, if_neg h1]
  all_goals rfl
theorem no_take (o : Addr) (a : Int) (e : Addr) : (rf o a e).lookup ("take" : Str) = none := rf_no _ _ _ (by decide +kernel) (by decide +kernel) (by decide +kernel) (by decide +kernel)
theorem no_take_figures (o : Addr) (a : Int) (e : Addr) : (rf o a e).lookup ("take_figures" : Str) = none := rf_no _ _ _ (by decide +kernel) (by decide +kernel) (by decide +kernel) (by decide +kernel)
theorem no_take_number (o : Addr) (a : Int) (e : Addr) : (rf o a e).lookup ("take_number" : Str) = none := rf_no _ _ _ (by decide +kernel) (by decide +kernel) (by decide +kernel) (by decide +kernel)
theorem no_take_parts (o : Addr) (a : Int) (e : Addr) : (rf o a e).lookup ("take_parts" : Str) = none := rf_no _ _ _ (by decide +kernel) (by decide +kernel) (by decide +kernel) (by decide +kernel)
theorem no_take_text (o : Addr) (a : Int) (e : Addr) : (rf o a e).lookup ("take_text" : Str) = none := rf_no _ _ _ (by decide +kernel) (by decide +kernel) (by decide +kernel) (by decide +kernel)
theorem no_take_value (o : Addr) (a : Int) (e : Addr) : (rf o a e).lookup ("take_value" : Str) = none := rf_no _ _ _ (by decide +kernel) (by decide +kernel) (by decide +kernel) (by decide +kernel)
theorem no_take_row (o : Addr) (a : Int) (e : Addr) : (rf o a e).lookup ("take_row" : Str) = none := rf_no _ _ _ (by decide +kernel) (by decide +kernel) (by decide +kernel) (by decide +kernel)
/-! ### what is promised -/
abbrev cR (K : PySem.W.Frag) : Addr := He.ga K "Reading"
abbrev cB (K : PySem.W.Frag) : Addr := He.ga K "Broken"
/-- the reading r stands at a, over the octets os -/
def Rd (K : PySem.W.Frag) (r o e dx : Addr) (os : List Nat) (a : Nat) (H : Hp) : Prop := H r = some (.ins (cR K) dx (rf o (a : Int) e)) ∧ H o = some (.tup (nts os))
/-- the octets ex are taken, or the octets end within -/
def Res (K : PySem.W.Frag) (r o e dx : Addr) (os : List Nat) (a : Nat) (ex : List Nat) (ok : V → Hp → Prop) (H : Hp) (Q : VK) (E : XK) : Prop :=
  Rd K r o e dx os a H ∧ ∃ b, Ag os a ex b ∧ (b = true → ∀ v H', Sx (· = r) H H' → Rd K r o e dx os (a + ex.length) H' → ok v H' → Q v H') ∧
    (b = false → ∀ d H', Sx (· = r) H H' → H' d = some (.xd [("at", .int (os.length : Int))]) → E (.ref (cB K)) (some d) H')
def spInit (K : PySem.W.Frag) : Sp := fun vs H Q _ => ∃ (r o dx : Addr) (a : Nat), vs = [.ref r, .ref o, .int (a : Int), .bl false] ∧ H r = some (.ins (cR K) dx []) ∧ ∀ e H', Sx (· = r) H H' → H' r = some (.ins (cR K) dx (rf o (a : Int) e)) → Q .non H'
def spTake (K : PySem.W.Frag) : Sp := fun vs H Q E => ∃ (r o e dx : Addr) (lo hi : Int) (os : List Nat) (a x : Nat), vs = [.ref r, .int lo, .int hi] ∧ lo ≤ x ∧ x ≤ hi ∧ Res K r o e dx os a [x] (fun v _ => v = .int (x : Int)) H Q E
def spFig (K : PySem.W.Frag) : Sp := fun vs H Q E => ∃ (r o e dx : Addr) (most : Int) (os : List Nat) (a : Nat) (l : List Nat), vs = [.ref r, .int (l.length : Int), .int most] ∧ l.length ≤ 20 ∧ (∀ x ∈ l, x < 256) ∧ (∀ x t, l = x :: t → 1 ≤ x ∧ (x : Int) ≤ most) ∧ Res K r o e dx os a l (fun v _ => v = .int (val l : Int)) H Q E
def spNumber (K : PySem.W.Frag) : Sp := fun vs H Q E => ∃ (r o e dx : Addr) (os : List Nat) (a n : Nat), vs = [.ref r] ∧ n < 256 ^ 8 ∧ Res K r o e dx os a (numF n) (fun v _ => v = .int (n : Int)) H Q E
def spParts (K : PySem.W.Frag) : Sp := fun vs H Q E => ∃ (r o e dx : Addr) (lo : Int) (os : List Nat) (a n : Nat), vs = [.ref r, .int lo] ∧ n < 4096 ∧ lo ≤ (figs n).length ∧ Res K r o e dx os a (numF n) (fun v _ => v = .int (n : Int)) H Q E
theorem Rd.ne {K : PySem.W.Frag} {r o e dx : Addr} {os : List Nat} {a : Nat} {H : Hp} (h : Rd K r o e dx os a H) : ¬ o = r := fun z => by
  have h1 := h.1
  rw [← z, h.2] at h1
  cases h1
section
variable {P : Program} {w : World} {K : PySem.W.Frag} {mg : Str → Option Value} {base : Heap}
theorem ok_Reading_init (T : Tx P K mg) : Has P w K mg base CX0 1 (He.ma K (He.ga K "Reading") "__init__") p_Reading_init (spInit K) := by
  obtain ⟨fd, F, b⟩ := T.d_Reading_init
  refine ⟨fd, F.ok sc_Reading_init (fun vs H Q E ⟨r, o, dx, a, e, _⟩ => by rw [e]; rfl) (fun cdv A outer s H vs Q E hr h => ?_), b⟩
  obtain ⟨r, o, dx, a, rfl, hr0, k⟩ := h
  refine ⟨_, PSs.nox (pss_cons (ps_fld (pv 0) (pv 1) rfl)
      (pss_cons (ps_fld (pv 0) (pv 2) rfl)
      (pss_cons (ps_fld (pv 0) (pv 3) rfl)
      (pss_one (ps_fld (pv 0) (pe_lst pa_nil) rfl))))), ?_⟩
  refine ⟨_, rfl, _, rfl, r, _, dx, _, rfl, hr0, T.c_Reading, T.n_Reading_octets, (by show 0 < 1000; decide), ?_⟩
  refine ⟨_, rfl, _, rfl, r, _, dx, _, rfl, upd_same, T.c_Reading, T.n_Reading_at, (by show 1 < 1000; decide), ?_⟩
  refine ⟨_, rfl, _, rfl, r, _, dx, _, rfl, upd_same, T.c_Reading, T.n_Reading_heals, Nat.lt_of_le_of_lt (pf_len _ _ _) (Nat.lt_of_le_of_lt (Nat.add_le_add_right (pf_len _ _ _) 1) (by show 0 + 1 + 1 < 1000; decide)), ?_⟩
  refine ⟨Nat.zero_le _, fun e he => ⟨_, rfl, r, _, dx, _, rfl, same_upd he _ _ upd_same, T.c_Reading, T.n_Reading_extra, Nat.lt_of_le_of_lt (pf_len _ _ _) (Nat.lt_of_le_of_lt (Nat.add_le_add_right (pf_len _ _ _) 1) (Nat.lt_of_le_of_lt (Nat.add_le_add_right (pf_len _ _ _) 2) (by show 0 + 1 + 2 < 1000; decide))), ?_⟩⟩
  rw [rf_eq]
  have ner : ∀ b : Addr, ¬ b = r → b ≠ r := fun _ h => h
  refine k e _ (fun b u nb hb => ?_) upd_same
  have hr3 : upd (upd (upd H r (.ins (cR K) dx (putF "octets" (.ref o) []))) r (.ins (cR K) dx (putF "at" (.int (a : Int)) (putF "octets" (.ref o) [])))) r (.ins (cR K) dx (putF "heals" (.bl false) (putF "at" (.int (a : Int)) (putF "octets" (.ref o) [])))) b = some u := by
    rw [upd_ne nb, upd_ne nb, upd_ne nb]; exact hb
  rw [upd_ne nb]
  exact same_upd he _ _ hr3
theorem ok_Reading_take (T : Tx P K mg) : Has P w K mg base (L2.CX P w) 3 (He.ma K (He.ga K "Reading") "take") p_Reading_take (spTake K) := by
  obtain ⟨fd, F, b⟩ := T.d_Reading_take
  refine ⟨fd, F.ok sc_Reading_take (fun vs H Q E ⟨r, o, e', dx, lo, hi, os, a, x, e, _⟩ => by rw [e]; rfl) (fun cdv A outer s H vs Q E hr h => ?_), b⟩
  obtain ⟨r, o, e, dx, lo, hi, os, a, x, rfl, h1, h2, ⟨hr1, ho⟩, bb, hag, kT, kF⟩ := h
  have tk := takes_of (X := cxOf (L2.CX P w) P w K mg base n_Reading_take "Reading.take" (defScope s_Reading_take) (He.ma K (He.ga K "Reading") "take") cdv A outer s H E) rfl rfl rfl rfl
  obtain ⟨_, _, _, hb⟩ := T.br
  refine ⟨_, (pss_cons (ps_set (i := 3) sc_Reading_take.nd rfl (Or.inl rfl) (pe_fld (pv 0) rfl))
      (pss_cons (ps_if (pt_cmpR op_ge (pv 3) (pe_callB call_len_seq rfl T.f_len boot_len (pa_cons (pe_fld (pv 0) rfl) pa_nil)) (nomark _)) (pss_cons (ps_if (pt_not (pt_val (pe_fld (pv 0) rfl))) (pss_one (ps_raiseBr rfl hb T.pr hr tk (pa_cons (pe_callB call_len_seq rfl T.f_len boot_len (pa_cons (pe_fld (pv 0) rfl) pa_nil)) pa_nil))) pss_nil)
      (pss_cons (ps_expr (pe_bm PySem.F.plainAttrs_list PySem.F.slot_list_append PySem.F.type_list_append mt_append (pe_fld (pv 0) rfl) (pa_cons (pv 1) pa_nil)))
      (pss_cons (ps_fldaug (pv 0) pe_int in_add)
      (pss_one (ps_ret (pv 1)))))) pss_nil)
      (pss_cons (ps_if (pt_not (pt_chain op_le op_le (pv 1) (pe_ix ix_tup (pe_fld (pv 0) rfl) (pv 3) (fun _ _ => rfl)) (pv 2))) (pss_one (ps_raiseBr rfl hb T.pr hr tk (pa_cons (pv 3) pa_nil))) pss_nil)
      (pss_cons (ps_fldaug (pv 0) pe_int in_add)
      (pss_one (ps_ret (pe_ix ix_tup (pe_fld (pv 0) rfl) (pv 3) (fun _ _ => rfl)))))))), ?_⟩
  refine ⟨_, rfl, r, _, dx, _, _, rfl, hr1, T.c_Reading, T.n_Reading_at, rf_lat _ _ _, ?_⟩
  refine ⟨_, rfl, _, rfl, r, _, dx, _, _, rfl, hr1, T.c_Reading, T.n_Reading_octets, rf_octets _ _ _, o, _, rfl, .inr (SqT.of ho), _, _, rfl, rfl, _, rfl, ?_⟩
  rw [nts_len]
  rcases Ag.cons hag with ⟨hx, hag'⟩ | ⟨hle, hbf⟩
  · have hlt : a < os.length := (List.getElem?_eq_some_iff.mp hx).1
    rw [decide_eq_false (by omega)]
    refine iteF ?_
    have hat : atI (nts os) (a : Int) = some (.int (x : Int)) := atI_nat (nts_get hx)
    refine ⟨_, rfl, _, rfl, r, _, dx, _, _, rfl, hr1, T.c_Reading, T.n_Reading_octets, rf_octets _ _ _, _, rfl, o, _, _, _, rfl, rfl, SqT.of ho, hat, ?_⟩
    refine ⟨_, _, rfl, rfl, _, rfl, ?_⟩
    rw [decide_eq_true h1]
    refine iteT ⟨_, rfl, _, _, rfl, rfl, _, rfl, ?_⟩
    rw [decide_eq_true h2]
    refine iteF ⟨_, rfl, r, _, dx, _, _, rfl, hr1, T.c_Reading, T.n_Reading_at, rf_lat _ _ _, _, _, rfl, rfl, dx, _, hr1, (by show 4 < 1000; decide), ?_⟩
    rw [rf_at]
    have hne : o ≠ r := Rd.ne ⟨hr1, ho⟩
    have ho2 : upd H r (.ins (cR K) dx (rf o ((a : Int) + 1) e)) o = some (.tup (nts os)) := by rw [upd_ne hne]; exact ho
    refine ⟨_, rfl, r, _, dx, _, _, rfl, upd_same, T.c_Reading, T.n_Reading_octets, rf_octets _ _ _, _, rfl, o, _, _, _, rfl, rfl, SqT.of ho2, hat, ?_⟩
    exact kT hag'.nil_true _ _ (sx_at (Sx.refl _ _) rfl) ⟨upd_same, ho2⟩ rfl
  · rw [decide_eq_true (by omega)]
    refine iteT ⟨_, rfl, r, _, dx, _, _, rfl, hr1, T.c_Reading, T.n_Reading_heals, rf_heals _ _ _, _, rfl, ?_⟩
    refine iteT ⟨_, rfl, r, _, dx, _, _, rfl, hr1, T.c_Reading, T.n_Reading_octets, rf_octets _ _ _, o, _, rfl, .inr (SqT.of ho), ?_⟩
    rw [nts_len]
    exact ⟨_, rfl, fun d hd => kF hbf d _ (sx_same (same_upd hd)) upd_same⟩
end
end K53

set_option Elab.async false
set_option linter.all false
set_option maxRecDepth 100000
set_option maxHeartbeats 4000000
/-! figures, numbers, texts taken -/
namespace K53
open PySem PySem.Spec PyProof.Rows L2
section
variable {P : Program} {w : World} {K : PySem.W.Frag} {mg : Str → Option Value} {base : Heap} {r o e dx : Addr} {os : List Nat} {a : Nat} {H : Hp}
theorem Rd.move {a' : Nat} (h : Rd K r o e dx os a H) (e' : a = a') : Rd K r o e dx os a' H := e' ▸ h
/-- a part of what stands there is taken -/
theorem Res.step {ex1 ex2 : List Nat} {b : Bool} {ok : V → Hp → Prop} {Q : VK} {E : XK} (h : Ag os a (ex1 ++ ex2) b) (hr : Rd K r o e dx os a H) (kT : ∀ v H', Ag os (a + ex1.length) ex2 b → Sx (· = r) H H' → Rd K r o e dx os (a + ex1.length) H' → ok v H' → Q v H')
    (kF : b = false → ∀ d H', Sx (· = r) H H' → H' d = some (.xd [("at", .int (os.length : Int))]) → E (.ref (cB K)) (some d) H') : Res K r o e dx os a ex1 ok H Q E := by
  obtain ⟨b1, h1, h2, h3⟩ := Ag.split h
  exact ⟨hr, b1, h1, fun hb v H' s rd k => kT v H' (h2 hb) s rd k, fun hb => kF (h3 hb)⟩
/-- the last part -/
theorem Res.end {ex : List Nat} {b : Bool} {ok : V → Hp → Prop} {Q : VK} {E : XK} (h : Ag os a ex b) (hr : Rd K r o e dx os a H) (kT : b = true → ∀ v H', Sx (· = r) H H' → Rd K r o e dx os (a + ex.length) H' → ok v H' → Q v H')
    (kF : b = false → ∀ d H', Sx (· = r) H H' → H' d = some (.xd [("at", .int (os.length : Int))]) → E (.ref (cB K)) (some d) H') : Res K r o e dx os a ex ok H Q E := ⟨hr, b, h, kT, kF⟩
theorem drop_get {l : List Nat} {j : Nat} (h : j < l.length) : l.drop j = l[j] :: l.drop (j + 1) := List.drop_eq_getElem_cons h
theorem ok_Reading_take_figures (T : Tx P K mg) : Has P w K mg base (L2.CX P w) 4 (He.ma K (He.ga K "Reading") "take_figures") p_Reading_take_figures (spFig K) := by
  obtain ⟨_, G_Reading_take, b_Reading_take⟩ := ok_Reading_take (w := w) (base := base) T
  obtain ⟨fd, F, b⟩ := T.d_Reading_take_figures
  refine ⟨fd, F.ok sc_Reading_take_figures (fun vs H Q E ⟨r, o, e', dx, most, os, a, l, e, _⟩ => by rw [e]; rfl) (fun cdv A outer s H vs Q E hr h => ?_), b⟩
  obtain ⟨r, o, e, dx, most, os, a, l, rfl, hl, h256, hhd, hrd, bb, hag, kT, kF⟩ := h
  have tk := takes_of (X := cxOf (L2.CX P w) P w K mg base n_Reading_take_figures "Reading.take_figures" (defScope s_Reading_take_figures) (He.ma K (He.ga K "Reading") "take_figures") cdv A outer s H E) rfl rfl rfl rfl
  refine ⟨_, (pss_cons (ps_set (i := 3) sc_Reading_take_figures.nd rfl (Or.inl rfl) pe_int)
      (pss_cons (ps_for (passes_of rfl) rfl (pi_range1 rfl T.f_range (pa_cons (pv 1) pa_nil)) (pg_name (i := 4) sc_Reading_take_figures.nd rfl (Or.inl rfl)) (pss_one (ps_set (i := 3) sc_Reading_take_figures.nd rfl (Or.inl rfl) (pe_op op_add (pe_op op_mul (pv 3) (pe_gi T.i_MOST_OCTET)) (pe_meth (pv 0) T.c_Reading T.m_Reading_take G_Reading_take (hr.mono (by decide)) b_Reading_take .nil (passE tk) (pa_cons (pe_ifExp (pt_cmpR op_eq (pv 4) pe_int (nomark _)) pe_int pe_int) (pa_cons (pe_ifExp (pt_cmpR op_eq (pv 4) pe_int (nomark _)) (pv 2) (pe_op op_sub (pe_gi T.i_MOST_OCTET) pe_int)) pa_nil)))))))
      (pss_one (ps_ret (pv 3))))), ?_⟩
  refine ⟨_, rfl, _, rfl, by omega, by omega, for_range (lo := 0) (n := l.length) (fun j σ' H' => (∃ u, σ' = [some (.ref r), some (.int (l.length : Int)), some (.int most), some (.int (val (l.take j) : Int)), u]) ∧ Ag os (a + j) (l.drop j) bb ∧ Sx (· = r) H H' ∧ Rd K r o e dx os (a + j) H')
    ⟨⟨none, rfl⟩, hag, Sx.refl _ _, hrd⟩ ?_ ?_⟩
  · rintro j σ' H' hj ⟨⟨u, rfl⟩, hg, s1, rd⟩
    have hd := drop_get hj
    rw [hd] at hg
    have hx256 := h256 _ (List.getElem_mem hj)
    refine ⟨_, rfl, _, _, rfl, rfl, .inr ⟨by decide, by decide⟩, _, rfl, r, dx, _, rfl, rd.1, no_take _ _ _, ?_⟩
    have fin : ∀ (lo hi : Int), lo ≤ l[j] → (l[j] : Int) ≤ hi → ∀ (Q1 : VK), (∀ v H2, Sx (· = r) H' H2 → Rd K r o e dx os (a + j + 1) H2 → Ag os (a + j + 1) (l.drop (j + 1)) bb → v = .int (l[j] : Int) → Q1 v H2) → spTake K [.ref r, .int lo, .int hi] H' Q1 E :=
      fun lo hi h1 h2 Q1 kk => ⟨r, o, e, dx, lo, hi, os, a + j, l[j], rfl, h1, h2, Res.step (ex1 := [l[j]]) hg rd (fun v H2 g2 s2 rd2 ev => kk v H2 s2 rd2 g2 ev) fun hb d H2 s2 hx => kF hb d H2 (s1.trans s2) hx⟩
    have ev2 : (val (l.take j) : Int) * 256 + (l[j] : Int) = (val (l.take (j + 1)) : Int) := by
      have e1 : l[j]? = some l[j] := List.getElem?_eq_getElem hj
      rw [take_snoc e1, val_snoc]
      rfl
    by_cases h0 : j = 0
    · have hh := hhd l[j] (l.drop (j + 1)) (by rw [← hd, h0]; rfl)
      have et : decide (V.int (0 + (j : Int)) = V.int 0) = true := decide_eq_true (by rw [h0]; rfl)
      refine ⟨_, rfl, rfl, _, rfl, ?_⟩
      rw [et]
      refine iteT ⟨_, rfl, rfl, _, rfl, ?_⟩
      rw [et]
      refine iteT ⟨_, rfl, fin 1 most (by omega) hh.2 _ fun v H2 s2 rd2 g2 ev => ⟨_, _, rfl, ev, ⟨some (.int (0 + (j : Int))), ?_⟩, g2, s1.trans s2, rd2⟩⟩
      rw [← ev2]
      rfl
    · have et : decide (V.int (0 + (j : Int)) = V.int 0) = false := decide_eq_false (fun z => by have := V.int.inj z; omega)
      refine ⟨_, rfl, rfl, _, rfl, ?_⟩
      rw [et]
      refine iteF ⟨_, rfl, rfl, _, rfl, ?_⟩
      rw [et]
      refine iteF ⟨_, _, rfl, rfl, fin 0 (256 - 1) (by omega) (by omega) _ fun v H2 s2 rd2 g2 ev => ⟨_, _, rfl, ev, ⟨some (.int (0 + (j : Int))), ?_⟩, g2, s1.trans s2, rd2⟩⟩
      rw [← ev2]
      rfl
  · rintro σ' H' ⟨⟨u, rfl⟩, hg, s1, rd⟩
    rw [List.drop_of_length_le (Nat.le_refl _)] at hg
    rw [List.take_of_length_le (Nat.le_refl _)]
    exact ⟨_, rfl, kT hg.nil_true _ _ s1 rd rfl⟩
theorem ok_Reading_take_number (T : Tx P K mg) : Has P w K mg base (L2.CX P w) 5 (He.ma K (He.ga K "Reading") "take_number") p_Reading_take_number (spNumber K) := by
  obtain ⟨_, G_Reading_take, b_Reading_take⟩ := ok_Reading_take (w := w) (base := base) T
  obtain ⟨_, G_Reading_take_figures, b_Reading_take_figures⟩ := ok_Reading_take_figures (w := w) (base := base) T
  obtain ⟨fd, F, b⟩ := T.d_Reading_take_number
  refine ⟨fd, F.ok sc_Reading_take_number (fun vs H Q E ⟨r, o, e', dx, os, a, n, e, _⟩ => by rw [e]; rfl) (fun cdv A outer s H vs Q E hr h => ?_), b⟩
  obtain ⟨r, o, e, dx, os, a, n, rfl, hn, hrd, bb, hag, kT, kF⟩ := h
  have tk := takes_of (X := cxOf (L2.CX P w) P w K mg base n_Reading_take_number "Reading.take_number" (defScope s_Reading_take_number) (He.ma K (He.ga K "Reading") "take_number") cdv A outer s H E) rfl rfl rfl rfl
  refine ⟨_, (pss_one (ps_ret (pe_meth (pv 0) T.c_Reading T.m_Reading_take_figures G_Reading_take_figures (hr.mono (by decide)) b_Reading_take_figures .nil (passE tk) (pa_cons (pe_meth (pv 0) T.c_Reading T.m_Reading_take G_Reading_take (hr.mono (by decide)) b_Reading_take .nil (passE tk) (pa_cons pe_int (pa_cons (pe_gi T.i_NUMBER_OCTETS) pa_nil))) (pa_cons (pe_op op_sub (pe_gi T.i_MOST_OCTET) pe_int) pa_nil))))), ?_⟩
  have hl := figs_len hn
  refine ⟨_, rfl, r, dx, _, rfl, hrd.1, no_take_figures _ _ _, _, rfl, r, dx, _, rfl, hrd.1, no_take _ _ _, ?_⟩
  refine ⟨r, o, e, dx, 0, 200, os, a, (figs n).length, rfl, by omega, by omega, Res.step (ex1 := [(figs n).length]) (ex2 := figs n) hag hrd (fun v H1 g1 s1 rd1 ev => ?_) kF⟩
  subst ev
  refine ⟨_, _, rfl, rfl, r, o, e, dx, 256 - 1, os, a + 1, figs n, rfl, by omega, figs_lt n, fun x t ex => ?_, Res.end g1 rd1 (fun hb v H2 s2 rd2 ev => ?_) fun hb d H2 s2 hx => kF hb d H2 (s1.trans s2) hx⟩
  · have hn0 : n ≠ 0 := fun z => by rw [z, figs_zero] at ex; cases ex
    obtain ⟨y, t', e1, e2, e3⟩ := figs_head hn0
    rw [e1] at ex
    cases ex
    exact ⟨e2, by omega⟩
  · refine kT hb v H2 (s1.trans s2) (rd2.move (by unfold numF; simp; omega)) ?_
    rw [ev, figs_val]
theorem ok_Reading_take_parts (T : Tx P K mg) : Has P w K mg base (L2.CX P w) 5 (He.ma K (He.ga K "Reading") "take_parts") p_Reading_take_parts (spParts K) := by
  obtain ⟨_, G_Reading_take, b_Reading_take⟩ := ok_Reading_take (w := w) (base := base) T
  obtain ⟨_, G_Reading_take_figures, b_Reading_take_figures⟩ := ok_Reading_take_figures (w := w) (base := base) T
  obtain ⟨fd, F, b⟩ := T.d_Reading_take_parts
  refine ⟨fd, F.ok sc_Reading_take_parts (fun vs H Q E ⟨r, o, e', dx, lo, os, a, n, e, _⟩ => by rw [e]; rfl) (fun cdv A outer s H vs Q E hr h => ?_), b⟩
  obtain ⟨r, o, e, dx, lo, os, a, n, rfl, hn, hlo, hrd, bb, hag, kT, kF⟩ := h
  have tk := takes_of (X := cxOf (L2.CX P w) P w K mg base n_Reading_take_parts "Reading.take_parts" (defScope s_Reading_take_parts) (He.ma K (He.ga K "Reading") "take_parts") cdv A outer s H E) rfl rfl rfl rfl
  refine ⟨_, (pss_cons (ps_set (i := 2) sc_Reading_take_parts.nd rfl (Or.inl rfl) (pe_meth (pv 0) T.c_Reading T.m_Reading_take G_Reading_take (hr.mono (by decide)) b_Reading_take .nil (passE tk) (pa_cons (pv 1) (pa_cons pe_int pa_nil))))
      (pss_one (ps_ret (pe_meth (pv 0) T.c_Reading T.m_Reading_take_figures G_Reading_take_figures (hr.mono (by decide)) b_Reading_take_figures .nil (passE tk) (pa_cons (pv 2) (pa_cons (pe_ifExp (pt_cmpR op_eq (pv 2) pe_int (nomark _)) (pe_op op_fdivW (pe_gi T.i_MOST_PARTS) (pe_gi T.i_MOST_OCTET)) (pe_op op_sub (pe_gi T.i_MOST_OCTET) pe_int)) pa_nil)))))), ?_⟩
  obtain ⟨hl, hp⟩ := figs_parts hn
  refine ⟨_, rfl, r, dx, _, rfl, hrd.1, no_take _ _ _, _, rfl, ?_⟩
  refine ⟨r, o, e, dx, lo, 2, os, a, (figs n).length, rfl, hlo, by omega, Res.step (ex1 := [(figs n).length]) (ex2 := figs n) hag hrd (fun v H1 g1 s1 rd1 ev => ?_) kF⟩
  subst ev
  have fin : ∀ most : Int, (∀ x t, figs n = x :: t → (x : Int) ≤ most) → spFig K [.ref r, .int ((figs n).length : Int), .int most] H1 Q E := fun most hm =>
    ⟨r, o, e, dx, most, os, a + 1, figs n, rfl, by omega, figs_lt n, fun x t ex => ⟨by
      have hn0 : n ≠ 0 := fun z => by rw [z, figs_zero] at ex; cases ex
      obtain ⟨y, t', e1, e2, e3⟩ := figs_head hn0
      rw [e1] at ex
      cases ex
      exact e2, hm x t ex⟩, Res.end g1 rd1 (fun hb v H2 s2 rd2 ev => by
        refine kT hb v H2 (s1.trans s2) (rd2.move (by unfold numF; simp; omega)) ?_
        rw [ev, figs_val]) fun hb d H2 s2 hx => kF hb d H2 (s1.trans s2) hx⟩
  refine ⟨_, rfl, r, dx, _, rfl, rd1.1, no_take_figures _ _ _, _, rfl, _, rfl, rfl, _, rfl, ?_⟩
  by_cases h2 : (figs n).length = 2
  · rw [decide_eq_true (by rw [h2]; rfl)]
    refine iteT ⟨_, _, rfl, rfl, ⟨by decide, by decide⟩, fin _ fun x t ex => ?_⟩
    have := hp x t ex
    rw [if_pos h2] at this
    show (x : Int) ≤ 4095 / 256
    omega
  · rw [decide_eq_false (fun z => by have := V.int.inj z; omega)]
    refine iteF ⟨_, _, rfl, rfl, fin _ fun x t ex => ?_⟩
    have := hp x t ex
    rw [if_neg h2] at this
    omega
end
end K53

set_option Elab.async false
set_option linter.all false
set_option maxRecDepth 100000
set_option maxHeartbeats 4000000
/-! texts, values, rows taken -/
namespace K53
open PySem PySem.Spec PyProof.Rows L2
theorem joinL_ones : ∀ l : List Nat, TL.joinL [] (l.map fun c => [c]) = l
  | [] => rfl
  | [_] => rfl
  | a :: b :: l => by
    show [a] ++ ([] ++ TL.joinL [] ((b :: l).map fun c => [c])) = a :: b :: l
    rw [joinL_ones (b :: l)]
    rfl
theorem str_ext {x y : Str} (h : x.cps.toList = y.cps.toList) : x = y := by
  obtain ⟨a⟩ := x
  obtain ⟨b⟩ := y
  have : a = b := Array.toList_inj.mp h
  rw [this]
theorem drop_getA {α : Type} {l : List α} {j : Nat} (h : j < l.length) : l.drop j = l[j] :: l.drop (j + 1) := List.drop_eq_getElem_cons h
theorem gret {te : TE} {i : Nat} {v : V} {σ : L2.St} {H : Hp} {D D2 : Ends} (h : te (σ.set i (some v)) H D.rt) : gName i v σ H ({ D2 with nx := tRet te D } : Ends).nx := h
theorem form_tup (l : List PyData) : form (.tuple l) = 4 :: (numF l.length ++ formAll l) := by unfold form; rfl
theorem form_str (x : Str) : form (.str x) = 3 :: (numF x.length ++ x.cps.toList.map idx) := by unfold form; rfl
theorem formAll_cons (d : PyData) (l : List PyData) : formAll (d :: l) = form d ++ formAll l := by conv => lhs; unfold formAll
theorem ones_sum : ∀ l : List Nat, ((l.map fun c => (⟨#[c]⟩ : Str)).map (·.length)).sum = l.length
  | [] => rfl
  | c :: l => by
    show 1 + ((l.map fun c => (⟨#[c]⟩ : Str)).map (·.length)).sum = l.length + 1
    rw [ones_sum l]
    omega
theorem join_signs (x : Str) : Txt.join "" (x.cps.toList.map fun c => (⟨#[c]⟩ : Str)) = x := by
  refine str_ext ?_
  rw [TL.join_eq]
  refine (TL.tl_join _ _).trans ?_
  rw [List.map_map]
  exact joinL_ones _
def spText (K : PySem.W.Frag) : Sp := fun vs H Q E => ∃ (r o e dx : Addr) (os : List Nat) (a : Nat) (x : Str), vs = [.ref r] ∧ x.length ≤ 20 ∧ (∀ c ∈ x.cps.toList, sg.contains c = true) ∧ Res K r o e dx os a (numF x.length ++ x.cps.toList.map idx) (fun v _ => v = .str x) H Q E
def spVal (K : PySem.W.Frag) (n : Nat) : Sp := fun vs H Q E => ∃ (r o e dx : Addr) (dp : Int) (os : List Nat) (a : Nat) (d : PyData) (m : Nat), vs = [.ref r, .int dp] ∧ okD d m = true ∧ m < n ∧ dp + n ≤ 40 ∧ Res K r o e dx os a (form d) (fun v H' => Rp H' v d) H Q E
def spTRow (K : PySem.W.Frag) : Sp := fun vs H Q E => ∃ (r o e dx : Addr) (os : List Nat) (a : Nat) (s : Str) (ds : List PyData), vs = [.ref r] ∧ okD (.tuple (.str s :: ds)) 3 = true ∧ Res K r o e dx os a (form (.tuple (.str s :: ds))) (fun v H' => Rp H' v (.tuple (.str s :: ds))) H Q E
theorem str_len (x : Str) : x.cps.toList.length = x.length := by obtain ⟨z⟩ := x; simp [Str.length]
section
variable {P : Program} {w : World} {K : PySem.W.Frag} {mg : Str → Option Value} {base : Heap} {r o e dx : Addr} {os : List Nat} {a : Nat} {H : Hp}
theorem Rd.news {D : Addr} {u : HO} (h : Rd K r o e dx os a H) (hD : H D = none) : Rd K r o e dx os a (upd H D u) := ⟨same_upd hD _ _ h.1, same_upd hD _ _ h.2⟩
theorem Rd.upl {D : Addr} {l l' : List V} (h : Rd K r o e dx os a H) (hD : H D = some (.lst l)) : Rd K r o e dx os a (upd H D (.lst l')) := by
  have n1 : r ≠ D := fun z => by
    have := h.1
    rw [z, hD] at this
    cases this
  exact ⟨by rw [upd_ne n1]; exact h.1, up_lst hD _ _ h.2⟩
theorem Rd.exr (h : Rd K r o e dx os a H) (b : Addr) (hb : b = r) : H b ≠ none := by
  rw [hb, h.1]
  simp
theorem rd_ts {H' : Hp} (h : Rd K r o e dx os a H) (s : Sx (· = r) H H') : TS H H' := fun b xs hb => s b _ (fun z => by
  have := h.1
  rw [← z, hb] at this
  cases this) hb
theorem ok_Reading_take_text (T : Tx P K mg) : Has P w K mg base (L2.CX P w) 6 (He.ma K (He.ga K "Reading") "take_text") p_Reading_take_text (spText K) := by
  obtain ⟨_, G_Reading_take, b_Reading_take⟩ := ok_Reading_take (w := w) (base := base) T
  obtain ⟨_, G_Reading_take_parts, b_Reading_take_parts⟩ := ok_Reading_take_parts (w := w) (base := base) T
  obtain ⟨fd, F, b⟩ := T.d_Reading_take_text
  refine ⟨fd, F.ok sc_Reading_take_text (fun vs H Q E ⟨r, o, e', dx, os, a, x, e, _⟩ => by rw [e]; rfl) (fun cdv A outer s H vs Q E hr h => ?_), b⟩
  obtain ⟨r, o, e, dx, os, a, x, rfl, hx, hsg, hrd, bb, hag, kT, kF⟩ := h
  have tk := takes_of (X := cxOf (L2.CX P w) P w K mg base n_Reading_take_text "Reading.take_text" (defScope s_Reading_take_text) (He.ma K (He.ga K "Reading") "take_text") cdv A outer s H E) rfl rfl rfl rfl
  refine ⟨_, (pss_cons (ps_set (i := 1) sc_Reading_take_text.nd rfl (Or.inl rfl) (pe_meth (pv 0) T.c_Reading T.m_Reading_take_parts G_Reading_take_parts (hr.mono (by decide)) b_Reading_take_parts .nil (passE tk) (pa_cons pe_int pa_nil)))
      (pss_one (ps_ret (pe_join pe_str (pe_lcX (own := [("turn", 2)]) rfl sc_Reading_take_text.nd rfl rfl tk (pi_range1 rfl T.f_range (pa_cons (pv 1) pa_nil)) (blkOk_by (N := n_Reading_take_text) (sc := defScope s_Reading_take_text) (by decide +kernel)) (fun _ _ _ _ _ => (pg_name (i := 2) sc_Reading_take_text.nd rfl (Or.inl rfl))) (fun _ _ _ _ _ => pts_nil) (fun _ _ _ _ _ => (pe_ix ix_str (pe_gs T.s_SIGNS) (pe_meth (pv 0) T.c_Reading T.m_Reading_take G_Reading_take (hr.mono (by decide)) b_Reading_take .nil passB (pa_cons pe_int (pa_cons (pe_op op_sub (pe_callB call_len_str rfl T.f_len boot_len (pa_cons (pe_gs T.s_SIGNS) pa_nil)) pe_int) pa_nil))) (fun _ _ => rfl)))))))), ?_⟩
  have hxl := str_len x
  refine ⟨_, rfl, r, dx, _, rfl, hrd.1, no_take_parts _ _ _, ?_⟩
  refine ⟨r, o, e, dx, 0, os, a, x.length, rfl, by omega, by omega, Res.step hag hrd (fun v H1 g1 s1 rd1 ev => ?_) kF⟩
  subst ev
  refine ⟨⟨_, rfl⟩, lc_rng x.length (· = r) (fun R h => ⟨_, rfl, h⟩) rd1.exr (by omega) (fun j acc H' => acc = (x.cps.toList.take j).map (fun c => V.str ⟨#[c]⟩) ∧ Rd K r o e dx os (a + (numF x.length).length + j) H' ∧ Ag os (a + (numF x.length).length + j) ((x.cps.toList.drop j).map idx) bb)
    (fun D hD => ⟨rfl, rd1.news hD, g1⟩) (fun j acc H' D l l' _ hD ⟨p1, p2, p3⟩ => ⟨p1, p2.upl hD, p3⟩) ?_ ?_⟩
  · rintro j acc H2 hj s2 hlen ⟨p1, p2, p3⟩ Q1 hq
    have hj' : j < x.cps.toList.length := by omega
    have hd := drop_get hj'
    rw [hd, List.map_cons] at p3
    have hc := hsg _ (List.getElem_mem hj')
    have hil := idx_lt hc
    refine ⟨_, rfl, r, dx, _, rfl, p2.1, no_take _ _ _, sgS, rfl, sz16 (by decide +kernel), _, _, rfl, rfl, ?_⟩
    have e39 : (sgS.length : Int) - 1 = 38 := by decide +kernel
    refine ⟨r, o, e, dx, 0, _, os, _, idx x.cps.toList[j], rfl, by omega, (by show ((idx _ : Nat) : Int) ≤ (sgS.length : Int) - 1; omega), Res.step (ex1 := [idx x.cps.toList[j]]) p3 p2 (fun v H3 g3 s3 rd3 ev => ?_) fun hb d H3 s3 hx3 => kF hb d H3 ((s1.trans s2).trans s3) hx3⟩
    subst ev
    refine ⟨sgS, _, x.cps.toList[j], rfl, rfl, sz16 (by decide +kernel), atI_nat (idx_get hc), hq _ _ s3 ⟨?_, rd3.move (by simp; omega), ?_⟩⟩
    · rw [take_snoc (List.getElem?_eq_getElem hj'), List.map_append, p1]
      rfl
    · have : a + (numF x.length).length + j + 1 = a + (numF x.length).length + (j + 1) := by omega
      rw [← this]
      exact g3
  · rintro D acc H2 hlen s2 hD ⟨p1, p2, p3⟩
    rw [List.take_of_length_le (by omega)] at p1
    rw [List.drop_of_length_le (by omega)] at p3
    refine ⟨"", D, x.cps.toList.map fun c => (⟨#[c]⟩ : Str), rfl, rfl, .inl (SqL.of (by rw [hD, p1, List.map_map]; rfl)), ?_, ?_⟩
    · rw [ones_sum, List.length_map]
      have e0 : ("" : Str).length = 0 := by decide +kernel
      rw [e0]
      omega
    · rw [join_signs]
      exact kT p3.nil_true _ _ (s1.trans s2) (p2.move (by rw [List.length_append, List.length_map]; omega)) rfl
theorem ok_Reading_take_value (T : Tx P K mg) : ∀ n : Nat, Has P w K mg base (L2.CX P w) (n + 7) (He.ma K (He.ga K "Reading") "take_value") p_Reading_take_value (spVal K n)
  | 0 => by
    obtain ⟨fd, F, b⟩ := T.d_Reading_take_value
    exact ⟨fd, F.ok sc_Reading_take_value (fun vs H Q E ⟨r, o, e', dx, dp, os, a, d, m, e, _⟩ => by rw [e]; rfl) (fun cdv A outer s H vs Q E hr ⟨r, o, e', dx, dp, os, a, d, m, e, _, h, _⟩ => absurd h (Nat.not_lt_zero _)), b⟩
  | n + 1 => by
    obtain ⟨_, G_Reading_take, b_Reading_take⟩ := ok_Reading_take (w := w) (base := base) T
    obtain ⟨_, G_Reading_take_number, b_Reading_take_number⟩ := ok_Reading_take_number (w := w) (base := base) T
    obtain ⟨_, G_Reading_take_parts, b_Reading_take_parts⟩ := ok_Reading_take_parts (w := w) (base := base) T
    obtain ⟨_, G_Reading_take_text, b_Reading_take_text⟩ := ok_Reading_take_text (w := w) (base := base) T
    obtain ⟨_, G_Reading_take_value, b_Reading_take_value⟩ := ok_Reading_take_value T n
    obtain ⟨fd, F, b⟩ := T.d_Reading_take_value
    refine ⟨fd, F.ok sc_Reading_take_value (fun vs H Q E ⟨r, o, e', dx, dp, os, a, d, m, e, _⟩ => by rw [e]; rfl) (fun cdv A outer s H vs Q E hr h => ?_), b⟩
    obtain ⟨r, o, e, dx, dp, os, a, d, m, rfl, hd, hm, hdp, hrd, bb, hag, kT, kF⟩ := h
    have tk := takes_of (X := cxOf (L2.CX P w) P w K mg base n_Reading_take_value "Reading.take_value" (defScope s_Reading_take_value) (He.ma K (He.ga K "Reading") "take_value") cdv A outer s H E) rfl rfl rfl rfl
    refine ⟨_, (pss_cons (ps_set (i := 2) sc_Reading_take_value.nd rfl (Or.inl rfl) (pe_meth (pv 0) T.c_Reading T.m_Reading_take G_Reading_take (hr.mono (by omega)) b_Reading_take .nil (passE tk) (pa_cons (pe_gi T.i_NOTHING) (pa_cons (pe_ifExp (pt_cmpR op_lt (pv 1) (pe_gi T.i_MOST_DEPTH) (nomark _)) (pe_gi T.i_ROW) (pe_gi T.i_TEXT)) pa_nil))))
      (pss_cons (ps_if (pt_cmpR op_eq (pv 2) (pe_gi T.i_NOTHING) (nomark _)) (pss_one (ps_ret pe_non)) pss_nil)
      (pss_cons (ps_if (pt_cmpR op_eq (pv 2) (pe_gi T.i_NUMBER) (nomark _)) (pss_one (ps_ret (pe_meth0 (pv 0) T.c_Reading T.m_Reading_take_number G_Reading_take_number (hr.mono (by omega)) b_Reading_take_number .nil (passE tk)))) pss_nil)
      (pss_cons (ps_if (pt_cmpR op_eq (pv 2) (pe_gi T.i_BELOW) (nomark _)) (pss_one (ps_ret (pe_op op_sub (pe_un un_neg pe_int) (pe_meth0 (pv 0) T.c_Reading T.m_Reading_take_number G_Reading_take_number (hr.mono (by omega)) b_Reading_take_number .nil (passE tk))))) pss_nil)
      (pss_cons (ps_if (pt_cmpR op_eq (pv 2) (pe_gi T.i_TEXT) (nomark _)) (pss_one (ps_ret (pe_meth0 (pv 0) T.c_Reading T.m_Reading_take_text G_Reading_take_text (hr.mono (by omega)) b_Reading_take_text .nil (passE tk)))) pss_nil)
      (pss_cons (ps_set (i := 3) sc_Reading_take_value.nd rfl (Or.inl rfl) (pe_meth (pv 0) T.c_Reading T.m_Reading_take_parts G_Reading_take_parts (hr.mono (by omega)) b_Reading_take_parts .nil (passE tk) (pa_cons pe_int pa_nil)))
      (pss_one (ps_ret (pe_callTy call_tuple_of rfl T.f_tuple boot_tuple (pa_cons (pe_lcX (own := [("turn", 4)]) rfl sc_Reading_take_value.nd rfl rfl tk (pi_range1 rfl T.f_range (pa_cons (pv 3) pa_nil)) (blkOk_by (N := n_Reading_take_value) (sc := defScope s_Reading_take_value) (by decide +kernel)) (fun _ _ _ _ _ => (pg_name (i := 4) sc_Reading_take_value.nd rfl (Or.inl rfl))) (fun _ _ _ _ _ => pts_nil) (fun _ _ _ _ _ => (pe_meth (pv 0) T.c_Reading T.m_Reading_take_value G_Reading_take_value (hr.mono (by omega)) b_Reading_take_value .nil passB (pa_cons (pe_op op_add (pv 1) pe_int) pa_nil)))) pa_nil)))))))))), ?_⟩
    have hdp2 : decide (dp < 40) = true := decide_eq_true (by omega)
    -- the kind
    have kind : ∀ (kd : Nat) (ex : List Nat) (Q1 : VK), form d = kd :: ex → kd ≤ 4 → (∀ H1, Ag os (a + 1) ex bb → Sx (· = r) H H1 → Rd K r o e dx os (a + 1) H1 → Q1 (.int (kd : Int)) H1) → spTake K [.ref r, .int 0, .int 4] H Q1 E := by
      intro kd ex Q1 ef hk hq
      rw [ef] at hag
      exact ⟨r, o, e, dx, 0, 4, os, a, kd, rfl, by omega, by omega, Res.step (ex1 := [kd]) hag hrd (fun v H1 g1 s1 rd1 ev => by subst ev; exact hq H1 g1 s1 rd1) kF⟩
    have fwd : ∀ {H1 : Hp}, Sx (· = r) H H1 → bb = false → ∀ d H2, Sx (· = r) H1 H2 → H2 d = some (.xd [("at", .int (os.length : Int))]) → E (.ref (cB K)) (some d) H2 := fun s1 hb d H2 s2 hx => kF hb d H2 (s1.trans s2) hx
    refine ⟨_, rfl, r, dx, _, rfl, hrd.1, no_take _ _ _, _, rfl, _, _, rfl, rfl, _, rfl, ?_⟩
    rw [hdp2]
    refine iteT ?_
    cases d with
    | none =>
      refine kind 0 [] _ rfl (by omega) fun H1 g1 s1 rd1 => ?_
      refine ⟨_, rfl, rfl, _, rfl, iteT ?_⟩
      exact kT g1.nil_true _ _ s1 rd1 .non
    | int i =>
      have hi : i.natAbs < 256 ^ 8 := by simpa [okD] using hd
      by_cases h0 : 0 ≤ i
      · obtain ⟨z, rfl⟩ : ∃ z : Nat, i = (z : Int) := ⟨i.toNat, by omega⟩
        have ef : form (.int (z : Int)) = 1 :: numF z := by
          unfold form
          rw [if_pos h0]
          rfl
        refine kind 1 _ _ ef (by omega) fun H1 g1 s1 rd1 => ?_
        refine ⟨_, rfl, rfl, _, rfl, iteF ⟨_, rfl, rfl, _, rfl, iteT ?_⟩⟩
        refine ⟨_, rfl, r, dx, _, rfl, rd1.1, no_take_number _ _ _, r, o, e, dx, os, a + 1, z, rfl, by omega, Res.end g1 rd1 (fun hb v H2 s2 rd2 ev => ?_) (fwd s1)⟩
        refine kT hb v H2 (s1.trans s2) (rd2.move (by rw [ef, List.length_cons]; omega)) ?_
        rw [ev]
        exact .int _
      · obtain ⟨z, hz⟩ : ∃ z : Nat, -1 - i = (z : Int) := ⟨(-1 - i).toNat, by omega⟩
        have ef : form (.int i) = 2 :: numF z := by
          unfold form
          rw [if_neg h0, hz]
          rfl
        refine kind 2 _ _ ef (by omega) fun H1 g1 s1 rd1 => ?_
        refine ⟨_, rfl, rfl, _, rfl, iteF ⟨_, rfl, rfl, _, rfl, iteF ⟨_, rfl, rfl, _, rfl, iteT ?_⟩⟩⟩
        refine ⟨_, rfl, _, rfl, r, dx, _, rfl, rd1.1, no_take_number _ _ _, r, o, e, dx, os, a + 1, z, rfl, by omega, Res.end g1 rd1 (fun hb v H2 s2 rd2 ev => ?_) (fwd s1)⟩
        refine ⟨_, _, rfl, ev, kT hb _ H2 (s1.trans s2) (rd2.move (by rw [ef, List.length_cons]; omega)) ?_⟩
        have ei : (-1 : Int) - (z : Int) = i := by omega
        show Rp H2 (.int (-1 - (z : Int))) (.int i)
        rw [ei]
        exact .int _
    | str x =>
      have hx : x.length ≤ 20 ∧ ∀ c ∈ x.cps.toList, sg.contains c = true := by
        simpa only [okD, Bool.and_eq_true, decide_eq_true_eq, List.all_eq_true] using hd
      have ef : form (.str x) = 3 :: (numF x.length ++ x.cps.toList.map idx) := by unfold form; rfl
      refine kind 3 _ _ ef (by omega) fun H1 g1 s1 rd1 => ?_
      refine ⟨_, rfl, rfl, _, rfl, iteF ⟨_, rfl, rfl, _, rfl, iteF ⟨_, rfl, rfl, _, rfl, iteF ⟨_, rfl, rfl, _, rfl, iteT ?_⟩⟩⟩⟩
      refine ⟨_, rfl, r, dx, _, rfl, rd1.1, no_take_text _ _ _, r, o, e, dx, os, a + 1, x, rfl, hx.1, hx.2, Res.end g1 rd1 (fun hb v H2 s2 rd2 ev => ?_) (fwd s1)⟩
      refine kT hb v H2 (s1.trans s2) (rd2.move (by rw [ef, List.length_cons]; omega)) ?_
      rw [ev]
      exact .str _
    | tuple ds =>
      cases m with
      | zero => simp [okD] at hd
      | succ m' =>
      have hd' : ds.length ≤ 20 ∧ okAll ds m' = true := by simpa [okD] using hd
      have ef : form (.tuple ds) = 4 :: (numF ds.length ++ formAll ds) := by unfold form; rfl
      refine kind 4 _ _ ef (by omega) fun H1 g1 s1 rd1 => ?_
      refine ⟨_, rfl, rfl, _, rfl, iteF ⟨_, rfl, rfl, _, rfl, iteF ⟨_, rfl, rfl, _, rfl, iteF ⟨_, rfl, rfl, _, rfl, iteF ?_⟩⟩⟩⟩
      refine ⟨_, rfl, r, dx, _, rfl, rd1.1, no_take_parts _ _ _, r, o, e, dx, 0, os, a + 1, ds.length, rfl, by omega, by omega, Res.step g1 rd1 (fun v H2 g2 s2 rd2 ev => ?_) (fwd s1)⟩
      subst ev
      refine gret ?_
      refine cb1 (lc_rng ds.length (· = r) (fun R h => ⟨_, rfl, h⟩) rd2.exr (by omega) (fun j acc H' => RpAll H' acc (ds.take j) ∧ Rd K r o e dx os (a + 1 + (numF ds.length).length + (formAll (ds.take j)).length) H' ∧ Ag os (a + 1 + (numF ds.length).length + (formAll (ds.take j)).length) (formAll (ds.drop j)) bb)
        (fun D hD => ⟨.nil, rd2.news hD, g2⟩) (fun j acc H' D l l' _ hD ⟨p1, p2, p3⟩ => ⟨p1.up (up_lst hD), p2.upl hD, p3⟩) ?_ ?_)
      · rintro j acc H3 hj s3 hlen ⟨p1, p2, p3⟩ Q1 hq
        have hdr := drop_getA hj
        rw [hdr, formAll_cons] at p3
        refine ⟨_, rfl, r, dx, _, rfl, p2.1, no_take_value _ _ _, _, rfl, _, _, rfl, rfl, r, o, e, dx, dp + 1, os, _, ds[j], m', rfl, okAll_mem hd'.2 _ (List.getElem_mem hj), by omega, by omega, Res.step p3 p2 (fun v H4 g4 s4 rd4 ev => ?_) (fwd ((s1.trans s2).trans s3))⟩
        have tkj : formAll (ds.take (j + 1)) = formAll (ds.take j) ++ form ds[j] := by rw [take_snoc (List.getElem?_eq_getElem hj), formAll_snoc]
        have el : a + 1 + (numF ds.length).length + (formAll (ds.take j)).length + (form ds[j]).length = a + 1 + (numF ds.length).length + (formAll (ds.take (j + 1))).length := by rw [tkj, List.length_append]; omega
        refine hq _ _ s4 ⟨?_, rd4.move el, by rw [← el]; exact g4⟩
        rw [take_snoc (List.getElem?_eq_getElem hj)]
        exact (p1.up (rd_ts p2 s4)).app (RpAll.one ev)
      · rintro D acc H3 hlen s3 hD ⟨p1, p2, p3⟩
        rw [List.take_of_length_le (Nat.le_refl _)] at p1 p2
        rw [List.drop_of_length_le (Nat.le_refl _)] at p3
        refine ⟨D, acc, rfl, .inl ⟨SqL.of hD, fun q hq => ?_⟩⟩
        have s4 : Sx (· = r) H (upd H3 q (.tup acc)) := ((s1.trans s2).trans s3).trans (sx_same (same_upd hq))
        exact kT p3.nil_true _ _ s4 ((p2.news hq).move (by rw [ef, List.length_cons, List.length_append]; omega)) (.tup upd_same (p1.up (same_ts (same_upd hq))))
    | bool _ => simp [okD] at hd
    | list _ => simp [okD] at hd
    | dict _ => simp [okD] at hd
theorem ok_Reading_take_row (T : Tx P K mg) : Has P w K mg base (L2.CX P w) 12 (He.ma K (He.ga K "Reading") "take_row") p_Reading_take_row (spTRow K) := by
  obtain ⟨_, G_Reading_take, b_Reading_take⟩ := ok_Reading_take (w := w) (base := base) T
  obtain ⟨_, G_Reading_take_parts, b_Reading_take_parts⟩ := ok_Reading_take_parts (w := w) (base := base) T
  obtain ⟨_, G_Reading_take_text, b_Reading_take_text⟩ := ok_Reading_take_text (w := w) (base := base) T
  obtain ⟨fd, F, b⟩ := T.d_Reading_take_row
  refine ⟨fd, F.ok sc_Reading_take_row (fun vs H Q E ⟨r, o, e', dx, os, a, z, ds, e, _⟩ => by rw [e]; rfl) (fun cdv A outer s H vs Q E hr h => ?_), b⟩
  obtain ⟨_, G_Reading_take_value, b_Reading_take_value⟩ := ok_Reading_take_value (w := w) (base := base) T 4
  obtain ⟨r, o, e, dx, os, a, x, ds, rfl, hd, hrd, bb, hag, kT, kF⟩ := h
  have tk := takes_of (X := cxOf (L2.CX P w) P w K mg base n_Reading_take_row "Reading.take_row" (defScope s_Reading_take_row) (He.ma K (He.ga K "Reading") "take_row") cdv A outer s H E) rfl rfl rfl rfl
  refine ⟨_, (pss_cons (ps_expr (pe_meth (pv 0) T.c_Reading T.m_Reading_take G_Reading_take (hr.mono (by decide)) b_Reading_take .nil (passE tk) (pa_cons (pe_gi T.i_ROW) (pa_cons (pe_gi T.i_ROW) pa_nil))))
      (pss_cons (ps_set (i := 1) sc_Reading_take_row.nd rfl (Or.inl rfl) (pe_meth (pv 0) T.c_Reading T.m_Reading_take_parts G_Reading_take_parts (hr.mono (by decide)) b_Reading_take_parts .nil (passE tk) (pa_cons pe_int pa_nil)))
      (pss_cons (ps_expr (pe_meth (pv 0) T.c_Reading T.m_Reading_take G_Reading_take (hr.mono (by decide)) b_Reading_take .nil (passE tk) (pa_cons (pe_gi T.i_TEXT) (pa_cons (pe_gi T.i_TEXT) pa_nil))))
      (pss_cons (ps_set (i := 2) sc_Reading_take_row.nd rfl (Or.inl rfl) (pe_meth0 (pv 0) T.c_Reading T.m_Reading_take_text G_Reading_take_text (hr.mono (by decide)) b_Reading_take_text .nil (passE tk)))
      (pss_one (ps_ret (pe_op op_catA (pe_tup (pa_cons (pv 2) pa_nil)) (pe_callTy call_tuple_of rfl T.f_tuple boot_tuple (pa_cons (pe_lcX (own := [("turn", 3)]) rfl sc_Reading_take_row.nd rfl rfl tk (pi_range1 rfl T.f_range (pa_cons (pe_op op_sub (pv 1) pe_int) pa_nil)) (blkOk_by (N := n_Reading_take_row) (sc := defScope s_Reading_take_row) (by decide +kernel)) (fun _ _ _ _ _ => (pg_name (i := 3) sc_Reading_take_row.nd rfl (Or.inl rfl))) (fun _ _ _ _ _ => pts_nil) (fun _ _ _ _ _ => (pe_meth (pv 0) T.c_Reading T.m_Reading_take_value G_Reading_take_value (hr.mono (by decide)) b_Reading_take_value .nil passB (pa_cons pe_int pa_nil)))) pa_nil))))))))), ?_⟩
  have hd' : ds.length + 1 ≤ 20 ∧ okD (.str x) 2 = true ∧ okAll ds 2 = true := by simpa [okD, okAll] using hd
  have hx : x.length ≤ 20 ∧ ∀ c ∈ x.cps.toList, sg.contains c = true := by
    simpa only [okD, Bool.and_eq_true, decide_eq_true_eq, List.all_eq_true] using hd'.2.1
  have fwd : ∀ {H1 : Hp}, Sx (· = r) H H1 → bb = false → ∀ d H2, Sx (· = r) H1 H2 → H2 d = some (.xd [("at", .int (os.length : Int))]) → E (.ref (cB K)) (some d) H2 := fun s1 hb d H2 s2 hx => kF hb d H2 (s1.trans s2) hx
  have ef : form (.tuple (.str x :: ds)) = [4] ++ (numF (ds.length + 1) ++ ([3] ++ ((numF x.length ++ x.cps.toList.map idx) ++ formAll ds))) := by
    rw [form_tup, formAll_cons, form_str]
    simp
  rw [ef] at hag
  refine ⟨_, rfl, r, dx, _, rfl, hrd.1, no_take _ _ _, r, o, e, dx, 4, 4, os, a, 4, rfl, by omega, by omega, Res.step hag hrd (fun v H1 g1 s1 rd1 ev => ?_) (fwd (Sx.refl _ _))⟩
  have hfp : 1 ≤ (figs (ds.length + 1)).length := by
    obtain ⟨y, t, e1, _⟩ := figs_head (n := ds.length + 1) (by omega)
    rw [e1]
    simp
  refine ⟨_, rfl, r, dx, _, rfl, rd1.1, no_take_parts _ _ _, r, o, e, dx, 1, os, _, ds.length + 1, rfl, by omega, by omega, Res.step g1 rd1 (fun v2 H2 g2 s2 rd2 ev2 => ?_) (fwd s1)⟩
  subst ev2
  refine ⟨_, rfl, r, dx, _, rfl, rd2.1, no_take _ _ _, r, o, e, dx, 3, 3, os, _, 3, rfl, by omega, by omega, Res.step g2 rd2 (fun v3 H3 g3 s3 rd3 ev3 => ?_) (fwd (s1.trans s2))⟩
  have s13 := (s1.trans s2).trans s3
  refine ⟨_, rfl, r, dx, _, rfl, rd3.1, no_take_text _ _ _, r, o, e, dx, os, _, x, rfl, hx.1, hx.2, Res.step g3 rd3 (fun v4 H4 g4 s4 rd4 ev4 => ?_) (fwd s13)⟩
  subst ev4
  have s14 := s13.trans s4
  refine ⟨_, rfl, sz1, fun t ht => ?_⟩
  have rd5 := rd4.news (u := .tup [.str x]) ht
  have s15 : Sx (· = r) H (upd H4 t (.tup [.str x])) := s14.trans (sx_same (same_upd ht))
  generalize ep : a + [4].length + (numF (ds.length + 1)).length + [3].length + (numF x.length ++ x.cps.toList.map idx).length = p at g4 rd4 rd5
  refine cb1 (lc_rng ds.length (· = r) (fun R h => ⟨_, rfl, _, _, rfl, rfl, (by show R [.int (((ds.length + 1 : Nat) : Int) - 1)] _; rw [show ((ds.length + 1 : Nat) : Int) - 1 = (ds.length : Int) by omega]; exact h)⟩) rd5.exr (by omega) (fun j acc H' => RpAll H' acc (ds.take j) ∧ Rd K r o e dx os (p + (formAll (ds.take j)).length) H' ∧ Ag os (p + (formAll (ds.take j)).length) (formAll (ds.drop j)) bb)
    (fun D hD => ⟨.nil, rd5.news hD, g4⟩) (fun j acc H' D l l' _ hD ⟨p1, p2, p3⟩ => ⟨p1.up (up_lst hD), p2.upl hD, p3⟩) ?_ ?_)
  · rintro j acc H6 hj s6 hlen ⟨p1, p2, p3⟩ Q1 hq
    have hdr := drop_getA hj
    rw [hdr, formAll_cons] at p3
    refine ⟨_, rfl, r, dx, _, rfl, p2.1, no_take_value _ _ _, r, o, e, dx, 1, os, _, ds[j], 2, rfl, okAll_mem hd'.2.2 _ (List.getElem_mem hj), by omega, by omega, Res.step p3 p2 (fun v H7 g7 s7 rd7 ev => ?_) (fwd (s15.trans s6))⟩
    have tkj : formAll (ds.take (j + 1)) = formAll (ds.take j) ++ form ds[j] := by rw [take_snoc (List.getElem?_eq_getElem hj), formAll_snoc]
    have el : p + (formAll (ds.take j)).length + (form ds[j]).length = p + (formAll (ds.take (j + 1))).length := by rw [tkj, List.length_append]; omega
    refine hq _ _ s7 ⟨?_, rd7.move el, by rw [← el]; exact g7⟩
    rw [take_snoc (List.getElem?_eq_getElem hj)]
    exact (p1.up (rd_ts p2 s7)).app (RpAll.one ev)
  · rintro D acc H6 hlen s6 hD ⟨p1, p2, p3⟩
    rw [List.take_of_length_le (Nat.le_refl _)] at p1 p2
    rw [List.drop_of_length_le (Nat.le_refl _)] at p3
    refine ⟨D, acc, rfl, .inl ⟨SqL.of hD, fun q hq => ?_⟩⟩
    have s7 : Sx (· = r) H6 (upd H6 q (.tup acc)) := sx_same (same_upd hq)
    have ht6 : upd H6 q (.tup acc) t = some (.tup [.str x]) := rd_ts p2 s7 _ _ (rd_ts rd5 s6 _ _ upd_same)
    have rd7 := p2.news (u := .tup acc) hq
    refine cat_of ht6 upd_same (sz16 (by rw [hlen]; simp; omega)) fun q2 H8 s8 h8 => ?_
    have el : p + (formAll ds).length = a + (form (.tuple (.str x :: ds))).length := by rw [ef, ← ep]; simp only [List.length_append]; omega
    refine kT p3.nil_true _ _ (((s15.trans s6).trans s7).trans (sx_same s8)) (Rd.move ⟨s8 _ _ rd7.1, s8 _ _ rd7.2⟩ el) ?_
    exact .tup h8 (.cons (.str _) ((p1.up (same_ts (same_upd hq))).up (same_ts s8)))
end
end K53

set_option Elab.async false
set_option linter.all false
set_option maxRecDepth 100000
set_option maxHeartbeats 4000000
/-! rows read -/
namespace K53
open PySem PySem.Spec PyProof.Rows L2
/-- o.m() within a try: its errors are wished for at the slots as they stand -/
def tMethS0 (C : Addr) (m : Str) (sp : Sp) (E : L2.St → XK) (ta : TE) : TE := fun σ H Q => ta σ H fun x H1 => ∃ a dx fs, x = .ref a ∧ H1 a = some (.ins C dx fs) ∧ fs.lookup m = none ∧ sp [x] H1 Q (E σ)
theorem pe_methS0 {X : Cx} {CX : CXT} {k : Nat} {f C : Addr} {fd : FuncData} {ps : List Str} {sp : Sp} {E : L2.St → XK} {m : Str} {pos apos : Pos} {o : Expr} {ta : TE} {pl : Sem Bool} (he : PE X o ta) (c : Cls X.K C) (hm : Meth X.K C m f)
    (F : FnOk X.prog X.w X.K X.mg X.base CX k f fd ps sp) (hr : Room k X.A) (hb : L2.Binds X.K fd ps []) (hx : ∀ σ, PassesAt CX X σ (E σ))
    (ht : eval (.Call (.Attribute o m apos) [] [] pos) X.env = (do
      let ov ← eval o X.env
      standAt apos.atName
      let (f, first) ← holding [ov] (getMethod ov m pl)
      callWith pos f first (backTo pos (starEach [] X.env)) (backToKw pos (keywordEach [] X.env))) := by rfl) : PE X (.Call (.Attribute o m apos) [] [] pos) (tMethS0 C m sp E ta) := by
  constructor
  intro pins s σ H Q I h
  apply PySem.W.methodCall_KW (pl := pl) _ ht
  refine thn (he.run pins s σ H _ I h) fun u s1 ⟨x, H1, I1, rx, a, dx, fs, ex, ea, l, q⟩ => ?_
  subst ex
  have eu : u = Value.ref a := rx
  subst eu
  apply getmeth_ok I1 ea c hm l
  exact PySem.W.callWith_K0 (first := [.ref a]) I1.kIn hm.kp (run_fnS (us := [.ref a]) (vs := [.ref a]) F hr hb (hx σ) I1 (.cons rfl .nil) q)
theorem same_ex {H H1 H2 : Hp} {r : Addr} (s : Same H H1) (h : H r = none) (x : Sx (· = r) H1 H2) : Same H H2 := fun b o e => x b o (fun z => by
  rw [z, h] at e
  cases e) (s b o e)
def rLenK (K : PySem.W.Frag) : List V → Hp → VK → Prop := fun xs H Q => ∃ p ys, xs = [.ref p] ∧ (SqL K H p ys ∨ SqT K H p ys) ∧ Q (.int ys.length) H
def rowD (d : PyData) : Prop := ∃ s ds, d = .tuple (.str s :: ds) ∧ okD (.tuple (.str s :: ds)) 3 = true
/-- whole rows, then a row that is cut (or nothing) -/
def Torn (os : List Nat) (W : List PyData) (tl : List Nat) : Prop := os = formAll W ++ tl ∧ (∀ d ∈ W, rowD d) ∧ W.length ≤ 1000 ∧ ∃ d t, rowD d ∧ t ≠ [] ∧ form d = tl ++ t
def spBegun (K : PySem.W.Frag) : Sp := fun vs H Q _ => ∃ (q : Addr) (os : List Nat) (a : Nat), vs = [.ref q, .int (a : Int)] ∧ Sq H q (nts os) ∧ (∀ x ∈ os, x < 256) ∧ ∀ r o e dx H', Same H H' → H r = none → Rd K r o e dx os a H' → Q (.ref r) H'
def spRead1 : Sp := fun vs H Q _ => ∃ (q : Addr) (os : List Nat) (a : Nat) (d : PyData) (tl : List Nat), vs = [.ref q, .int (a : Int)] ∧ Sq H q (nts os) ∧ (∀ x ∈ os, x < 256) ∧ a ≤ os.length ∧ rowD d ∧ os.drop a = form d ++ tl ∧
  ∀ t v H', Same H H' → Rp H' v d → H' t = some (.tup [v, .int ((a + (form d).length : Nat) : Int)]) → Q (.ref t) H'
def spRows : Sp := fun vs H Q _ => ∃ (q : Addr) (os : List Nat) (W : List PyData) (tl : List Nat), vs = [.ref q] ∧ Sq H q (nts os) ∧ (∀ x ∈ os, x < 256) ∧ Torn os W tl ∧
  ∀ t v H', Same H H' → Rp H' v (.tuple W) → H' t = some (.tup [v, .int ((formAll W).length : Int)]) → Q (.ref t) H'
theorem sz2 : 2 ≤ sizeLine := sz16 (by decide)
theorem rowD_pos {d : PyData} (h : rowD d) : 0 < (form d).length := by
  obtain ⟨x, ds, rfl, hd⟩ := h
  rw [form_tup]
  simp
section
variable {P : Program} {w : World} {K : PySem.W.Frag} {mg : Str → Option Value} {base : Heap}
theorem ok_begun (T : Tx P K mg) : Has P w K mg base CX0 5 (He.ga K "begun") p_begun (spBegun K) := by
  obtain ⟨_, G_need_octets, b_need_octets⟩ := ok_need_octets (w := w) (base := base) T
  obtain ⟨_, G_is_number, b_is_number⟩ := ok_is_number (w := w) (base := base) T
  obtain ⟨_, G_Reading_init, b_Reading_init⟩ := ok_Reading_init (w := w) (base := base) T
  obtain ⟨fd, F, b⟩ := T.d_begun
  refine ⟨fd, F.ok sc_begun (fun vs H Q E ⟨q, os, a, e, _⟩ => by rw [e]; rfl) (fun cdv A outer s H vs Q E hr h => ?_), b⟩
  obtain ⟨q, os, a, rfl, hq, h256, k⟩ := h
  refine ⟨_, PSs.nox (pss_cons (ps_set (i := 2) sc_begun.nd rfl (Or.inl rfl) (pe_call G_need_octets (hr.mono (by decide)) rfl T.g_need_octets T.kp_need_octets b_need_octets .nil pass0 (pa_cons (pv 0) pa_nil)))
      (pss_cons (ps_if (pt_not (pt_val (pe_call G_is_number (hr.mono (by decide)) rfl T.g_is_number T.kp_is_number b_is_number .nil pass0 (pa_cons (pv 1) pa_nil)))) (pss_one ps_never) pss_nil)
      (pss_one (ps_ret (pe_make T.k_Reading G_Reading_init (hr.mono (by decide)) rfl T.g_Reading b_Reading_init .nil pass0 (pa_cons (pv 2) (pa_cons (pv 1) (pa_cons pe_bl pa_nil)))))))), ?_⟩
  refine ⟨_, rfl, q, os, rfl, hq, h256, fun o H1 s1 h1 => ?_⟩
  refine ⟨_, rfl, _, rfl, .int _, _, rfl, ?_⟩
  have e1 : isN (V.int (a : Int)) = true := by show decide (0 ≤ (a : Int)) = true; exact decide_eq_true (by omega)
  rw [e1]
  refine iteF ⟨_, rfl, _, rfl, fun r dx hr0 hdx hne => ?_⟩
  have s2 : Same H1 (upd (upd H1 dx (.own r)) r (.ins (cR K) dx [])) := (same_upd hdx).trans (same_upd (by rw [upd_ne hne.symm]; exact hr0))
  refine ⟨r, o, dx, a, rfl, upd_same, fun e H3 s3 h3 => ⟨rfl, ?_⟩⟩
  have hr00 : H r = none := by
    cases z : H r with
    | none => rfl
    | some u => rw [s1 _ _ z] at hr0; cases hr0
  have ho3 : H3 o = some (.tup (nts os)) := s3 _ _ (fun z => by rw [z, hr0] at h1; cases h1) (s2 _ _ h1)
  exact k r o e dx H3 (same_ex (s1.trans s2) hr00 s3) hr00 ⟨h3, ho3⟩
theorem ok_read_row (T : Tx P K mg) : Has P w K mg base CX0 13 (He.ga K "read_row") p_read_row spRead1 := by
  obtain ⟨_, G_begun, b_begun⟩ := ok_begun (w := w) (base := base) T
  obtain ⟨_, G_Reading_take_row, b_Reading_take_row⟩ := ok_Reading_take_row (w := w) (base := base) T
  obtain ⟨fd, F, b⟩ := T.d_read_row
  refine ⟨fd, F.ok sc_read_row (fun vs H Q E ⟨q, os, a, d, tl, e, _⟩ => by rw [e]; rfl) (fun cdv A outer s H vs Q E hr h => ?_), b⟩
  obtain ⟨q, os, a, d, tl, rfl, hq, h256, hle, ⟨x, ds, rfl, hd⟩, hdr, k⟩ := h
  refine ⟨_, PSs.nox (pss_cons (ps_set (i := 2) sc_read_row.nd rfl (Or.inl rfl) (pe_call G_begun (hr.mono (by decide)) rfl T.g_begun T.kp_begun b_begun .nil pass0 (pa_cons (pv 0) (pa_cons (pv 1) pa_nil))))
      (pss_cons (ps_set (i := 3) sc_read_row.nd rfl (Or.inl rfl) (pe_meth0 (pv 2) T.c_Reading T.m_Reading_take_row G_Reading_take_row (hr.mono (by decide)) b_Reading_take_row .nil passL))
      (pss_one (ps_ret (pe_tup (pa_cons (pv 3) (pa_cons (pe_fld (pv 2) rfl) pa_nil))))))), ?_⟩
  refine ⟨_, rfl, _, rfl, q, os, a, rfl, hq, h256, fun r o e dx H1 s1 hr0 rd => ?_⟩
  refine ⟨_, rfl, r, dx, _, rfl, rd.1, no_take_row _ _ _, r, o, e, dx, os, a, x, ds, rfl, hd, Res.end (b := true) ⟨hle, tl, hdr⟩ rd (fun _ v H2 s2 rd2 hv => ?_) fun z => by cases z⟩
  refine ⟨_, rfl, _, rfl, r, _, dx, _, _, rfl, rd2.1, T.c_Reading, T.n_Reading_at, rf_lat _ _ _, sz2, fun t ht => ?_⟩
  exact k t v _ ((same_ex s1 hr0 s2).trans (same_upd ht)) (hv.up (same_ts (same_upd ht))) upd_same
theorem ok_read_rows (T : Tx P K mg) : Has P w K mg base CX0 13 (He.ga K "read_rows") p_read_rows spRows := by
  obtain ⟨_, G_need_octets, b_need_octets⟩ := ok_need_octets (w := w) (base := base) T
  obtain ⟨_, G_Reading_init, b_Reading_init⟩ := ok_Reading_init (w := w) (base := base) T
  obtain ⟨_, G_Reading_take_row, b_Reading_take_row⟩ := ok_Reading_take_row (w := w) (base := base) T
  obtain ⟨fd, F, b⟩ := T.d_read_rows
  refine ⟨fd, F.ok sc_read_rows (fun vs H Q E ⟨q, os, W, tl, e, _⟩ => by rw [e]; rfl) (fun cdv A outer s H vs Q E hr h => ?_), b⟩
  obtain ⟨q, os, W, tl, rfl, hq, h256, ⟨hos, hW, hWl, dl, tt, hdl, htt, hfl⟩, k⟩ := h
  obtain ⟨_, _, _, hb⟩ := T.br
  refine ⟨_, PSs.nox (pss_cons (ps_set (i := 1) sc_read_rows.nd rfl (Or.inl rfl) (pe_call G_need_octets (hr.mono (by decide)) rfl T.g_need_octets T.kp_need_octets b_need_octets .nil pass0 (pa_cons (pv 0) pa_nil)))
      (pss_cons (ps_par (i := 2) (j := 3) rfl sc_read_rows.nd rfl rfl (by decide) rfl rfl (pa_cons (pe_lst pa_nil) (pa_cons pe_int pa_nil)) rfl)
      (pss_cons (ps_while PassesOwn.never (pt_cmpR op_lt (pv 3) (pe_callB call_len_seq rfl T.f_len boot_len (pa_cons (pv 1) pa_nil)) (nomark _)) (pss_cons (ps_set (i := 4) sc_read_rows.nd rfl (Or.inl rfl) (pe_make T.k_Reading G_Reading_init (hr.mono (by decide)) rfl T.g_Reading b_Reading_init .nil pass0 (pa_cons (pv 1) (pa_cons (pv 3) (pa_cons pe_bl pa_nil)))))
      (pss_cons (ps_try_as (i := 6) (tb := fun W => tAsg (tMethS0 (cR K) "take_row" (spTRow K) (WE W) (tVar 4)) (gName 5)) (ts := fun a cls d => tSeq (tIfS (tTest (tOp (rI0 fun i j => .bl (decide (i < j))) (tByBr (cB K) a cls d (tVar 6)) (tCB (rLenK K) (tCons (tVar 1) tNil)))) tNever tNext) tBreak) (Wout := fun _ _ _ _ => False) rfl rfl sc_read_rows.nd rfl rfl ⟨rfl, by decide, .inl T.g_Broken⟩ takes0
          (fun W pn xe tk _ => pss_one (ps_set (i := 5) sc_read_rows.nd rfl (Or.inl rfl) (pe_methS0 (pv 4) T.c_Reading T.m_Reading_take_row G_Reading_take_row (hr.mono (by decide)) b_Reading_take_row (fun σ => passAt tk σ))))
          (fun a oe cls d pn hz hf => pss_cons (ps_if (pt_cmpR op_lt (pe_byBr hb hz hf (pv 6)) (pe_callB call_len_seq rfl T.f_len boot_len (pa_cons (pv 1) pa_nil)) (nomark _)) (pss_one ps_never) pss_nil) (pss_one ps_break)))
      (pss_cons (ps_expr (pe_bm PySem.F.plainAttrs_list PySem.F.slot_list_append PySem.F.type_list_append mt_append (pv 2) (pa_cons (pv 5) pa_nil)))
      (pss_one (ps_set (i := 3) sc_read_rows.nd rfl (Or.inl rfl) (pe_fld (pv 4) rfl)))))))
      (pss_one (ps_ret (pe_tup (pa_cons (pe_callTy call_tuple_of rfl T.f_tuple boot_tuple (pa_cons (pv 2) pa_nil)) (pa_cons (pv 3) pa_nil)))))))), ?_⟩
  refine ⟨_, rfl, q, os, rfl, hq, h256, fun o H1 s1 h1 => ⟨Nat.zero_le _, fun L hL => ⟨_, _, rfl, ?_⟩⟩⟩
  have hL0 : H L = none := by
    cases z : H L with
    | none => rfl
    | some u => rw [s1 _ _ z] at hL; cases hL
  have hlen : os.length = (formAll W).length + tl.length := by rw [hos, List.length_append]
  refine ⟨fun m σ' H' => ∃ j xs u v f, m = W.length - j ∧ j ≤ W.length ∧ σ' = [some (.ref q), some (.ref o), some (.ref L), some (.int ((formAll (W.take j)).length : Int)), u, v, f] ∧ Same H H' ∧ H' L = some (.lst xs) ∧ RpAll H' xs (W.take j) ∧ H' o = some (.tup (nts os)),
    ⟨W.length, 0, [], none, none, none, rfl, Nat.zero_le _, rfl, s1.trans (same_upd hL), upd_same, .nil, same_upd hL _ _ h1⟩, ?_⟩
  rintro m σ' H' ⟨j, xs, u, v, f, rfl, hj, rfl, s2, h2, r2, ho⟩
  refine ⟨_, rfl, _, rfl, o, _, rfl, .inr (SqT.of ho), _, _, rfl, rfl, _, rfl, ?_⟩
  rw [nts_len]
  -- what is done behind the loop
  have fin : ∀ (j : Nat) (xs : List V) (u v f : Option V) (H' : Hp), j = W.length → Same H H' → H' L = some (.lst xs) → RpAll H' xs (W.take j) → ∀ σ', σ' = [some (.ref q), some (.ref o), some (.ref L), some (.int ((formAll (W.take j)).length : Int)), u, v, f] →
      tRet (tTup (tCons (tCB (fun xs H_1 Q => ∃ p ys, xs = [V.ref p] ∧ ((SqL K H_1 p ys ∧ ∀ (l : Addr), H_1 l = none → Q (V.ref l) (upd H_1 l (HO.tup ys))) ∨ (SqT K H_1 p ys ∧ Q (V.ref p) H_1))) (tCons (tVar 2) tNil)) (tCons (tVar 3) tNil))) { nx := fun x H' => Q V.non H', rt := Q } σ' H' := by
    rintro j xs u v f H' rfl s2 h2 r2 σ' rfl
    rw [List.take_of_length_le (Nat.le_refl _)] at r2 ⊢
    refine ⟨_, rfl, L, xs, rfl, .inl ⟨SqL.of h2, fun p hp => ⟨_, rfl, sz2, fun t ht => ?_⟩⟩⟩
    exact k t (.ref p) _ ((s2.trans (same_upd hp)).trans (same_upd ht)) (.tup (same_upd ht _ _ upd_same) ((r2.up (same_ts (same_upd hp))).up (same_ts (same_upd ht)))) upd_same
  have hcut : formAll W = formAll (W.take j) ++ formAll (W.drop j) := by rw [← formAll_append, List.take_append_drop]
  have hdrop : os.drop (formAll (W.take j)).length = formAll (W.drop j) ++ tl := by rw [hos, hcut, List.append_assoc, List.drop_left]
  have hle : (formAll (W.take j)).length ≤ os.length := by rw [hlen, hcut, List.length_append]; omega
  by_cases hend : os.length ≤ (formAll (W.take j)).length
  · rw [decide_eq_false (by omega)]
    have hj2 : j = W.length := by
      by_cases z : j < W.length
      · have := rowD_pos (hW _ (List.getElem_mem z))
        have e2 := congrArg List.length hdrop
        rw [drop_getA z, formAll_cons, List.length_drop, List.length_append, List.length_append] at e2
        omega
      · omega
    exact iteF (fin j xs u v f H' hj2 s2 h2 r2 _ rfl)
  · rw [decide_eq_true (by omega)]
    refine iteT ⟨_, fun σ2 H2 h => h, ?_⟩
    refine ⟨_, rfl, _, rfl, fun r dx hr0 hdx hne => ?_⟩
    have s3 : Same H' (upd (upd H' dx (.own r)) r (.ins (cR K) dx [])) := (same_upd hdx).trans (same_upd (by rw [upd_ne hne.symm]; exact hr0))
    refine ⟨r, o, dx, _, rfl, upd_same, fun e H3 s4 h3 => ⟨rfl, ?_⟩⟩
    have hr00 : H r = none := by
      cases z : H r with
      | none => rfl
      | some u => rw [s2 _ _ z] at hr0; cases hr0
    have hLr : ¬ L = r := fun z => by rw [z, hr0] at h2; cases h2
    have hor : ¬ o = r := fun z => by rw [z, hr0] at ho; cases ho
    have s5 : Same H' H3 := same_ex s3 hr0 s4
    have rd : Rd K r o e dx os (formAll (W.take j)).length H3 := ⟨h3, s5 _ _ ho⟩
    by_cases hjl : j < W.length
    · -- a whole row
      obtain ⟨x, ds, ed, hd⟩ := hW _ (List.getElem_mem hjl)
      have hag : Ag os (formAll (W.take j)).length (form (.tuple (.str x :: ds))) true := ⟨hle, formAll (W.drop (j + 1)) ++ tl, by rw [hdrop, drop_getA hjl, formAll_cons, ed, List.append_assoc]⟩
      refine ⟨_, rfl, r, dx, _, rfl, rd.1, no_take_row _ _ _, r, o, e, dx, os, _, x, ds, rfl, hd, Res.end hag rd (fun _ v H4 s6 rd4 hv => ?_) fun z => by cases z⟩
      have s7 : Same H' H4 := same_ex s5 hr0 s6
      have h24 := s7 _ _ h2
      have hxl : xs.length ≤ 1000 := by rw [r2.len, List.length_take]; omega
      refine ⟨_, rfl, .inl ⟨rfl, _, SqL.of h24⟩, _, rfl, L, _, _, rfl, rfl, h24, Nat.lt_of_le_of_lt hxl (Nat.lt_of_lt_of_le (by decide : 1000 < 16777216) (sz16 (Nat.le_refl _))), ?_⟩
      have hrL : r ≠ L := fun z => hLr z.symm
      refine ⟨_, rfl, r, _, dx, _, _, rfl, by rw [upd_ne hrL]; exact rd4.1, T.c_Reading, T.n_Reading_at, rf_lat _ _ _, ?_⟩
      have tkj : W.take (j + 1) = W.take j ++ [.tuple (.str x :: ds)] := by rw [take_snoc (List.getElem?_eq_getElem hjl), ed]
      refine ⟨W.length - (j + 1), by omega, j + 1, xs ++ [v], some (.ref r), some v, f, rfl, hjl, ?_, fun b o' hb => ?_, upd_same, ?_, up_lst h24 _ _ rd4.2⟩
      · rw [tkj, formAll_snoc, List.length_append]
        rfl
      · rw [upd_ne (ne_of_none hb hL0)]
        exact s7 _ _ (s2 _ _ hb)
      · rw [tkj]
        exact ((r2.up (same_ts s7)).app (RpAll.one hv)).up (up_lst h24)
    · -- the row that is cut
      have hj2 : j = W.length := by omega
      obtain ⟨x, ds, rfl, hd⟩ := hdl
      have hag : Ag os (formAll (W.take j)).length (form (.tuple (.str x :: ds))) false := ⟨hle, tt, htt, by rw [hdrop, hj2, List.drop_of_length_le (Nat.le_refl _)]; exact hfl⟩
      refine ⟨_, rfl, r, dx, _, rfl, rd.1, no_take_row _ _ _, r, o, e, dx, os, _, x, ds, rfl, hd, Res.end hag rd (fun z => by cases z) fun _ d H4 s6 hx => ?_⟩
      have s7 : Same H' H4 := same_ex s5 hr0 s6
      refine ⟨true, hb.te, fun _ a ha => ?_, fun z => by cases z⟩
      refine ⟨_, rfl, rfl, rfl, d, _, rfl, hx, _, rfl, o, _, rfl, .inr (SqT.of (s7 _ _ ho)), _, _, rfl, rfl, _, rfl, ?_⟩
      rw [nts_len, decide_eq_false (by omega)]
      refine iteF ?_
      exact fin j xs _ _ _ H4 hj2 (s2.trans s7) (s7 _ _ h2) (r2.up (same_ts s7)) _ rfl
end
end K53

set_option Elab.async false
set_option linter.all false
set_option maxRecDepth 100000
set_option maxHeartbeats 4000000
/-! pages -/
namespace K53
open PySem PySem.Spec PyProof.Rows L2
/-! ### what a page is -/
def headD (t m : Nat) : PyData := .tuple [.str "page", .int (t : Int), .int (m : Int)]
def pageO (t m : Nat) (rows : List PyData) : List Nat := formAll (headD t m :: rows)
theorem head_ok {t m : Nat} (ht : t < 256 ^ 8) (hm : m < 256 ^ 8) : rowD (headD t m) := by
  refine ⟨"page", [.int (t : Int), .int (m : Int)], rfl, ?_⟩
  have h1 : okD (.str "page") 2 = true := by decide +kernel
  have h2 : ∀ k : Nat, k < 256 ^ 8 → okD (.int (k : Int)) 2 = true := fun k hk => by
    unfold okD
    exact decide_eq_true (by omega)
  have e : okD (.tuple [.str "page", .int (t : Int), .int (m : Int)]) 3 = (decide ([PyData.str "page", .int (t : Int), .int (m : Int)].length ≤ 20) && (okD (.str "page") 2 && (okD (.int (t : Int)) 2 && (okD (.int (m : Int)) 2 && true)))) := by
    simp only [okD, okAll]
  rw [e, h1, h2 t ht, h2 m hm]
  rfl
/-- what a page's octets tell -/
abbrev Told := Option (Nat × List PyData × Nat)
def PageOk (os : List Nat) (r : Told) : Prop := (∀ x ∈ os, x < 256) ∧ ∃ W tl, Torn os W tl ∧ ((W = [] ∧ r = none) ∨ ∃ t m rows, W = headD t m :: rows ∧ r = if m ≤ rows.length then some (t, rows, (formAll W).length) else none)
abbrev Best := Option (Nat × Nat × List PyData × Nat)
def nxt (j : Nat) (c : Best) : Told → Best
  | none => c
  | some a => match c with
    | none => some (j, a)
    | some b => if b.2.1 < a.1 then some (j, a) else some b
def best (r0 r1 : Told) : Best := nxt 1 (nxt 0 none r0) r1
/-- the value of best -/
def BV (H : Hp) (bv : V) : Best → Prop
  | none => bv = .non
  | some (pg, t, rows, b) => ∃ p v, bv = .ref p ∧ H p = some (.tup [.int (pg : Int), .int (t : Int), v, .int (b : Int)]) ∧ Rp H v (.tuple rows)
theorem BV.up {H H' : Hp} {bv : V} : ∀ {c : Best}, BV H bv c → Same H H' → BV H' bv c
  | none, h, _ => h
  | some (_, _, _, _), ⟨p, v, h1, h2, h3⟩, s => ⟨p, v, h1, s _ _ h2, h3.up (same_ts s)⟩
/-- data, item by item -/
def RqAll (H : Hp) (xs : List V) (ds : List PyData) : Prop := xs.length = ds.length ∧ ∀ (i : Nat) (v : V) (d : PyData), xs[i]? = some v → ds[i]? = some d → Rq H v d
theorem RqAll.up {H H' : Hp} {xs : List V} {ds : List PyData} (h : RqAll H xs ds) (s : Same H H') : RqAll H' xs ds := ⟨h.1, fun i v d h1 h2 => (h.2 i v d h1 h2).up s⟩
theorem RpAll.rq {H : Hp} {xs : List V} {ds : List PyData} (h : RpAll H xs ds) : RqAll H xs ds := ⟨h.len, fun i v d h1 h2 => by
  obtain ⟨d', h3, h4⟩ := h.get h1
  rw [h2] at h3
  cases h3
  exact .inl h4⟩
def spPage : Sp := fun vs H Q _ => ∃ (t : Nat) (a : Addr) (xs : List V) (ds : List PyData), vs = [.int (t : Int), .ref a] ∧ Sq H a xs ∧ RqAll H xs ds ∧ (∀ d ∈ ds, rowD d) ∧ t < 256 ^ 8 ∧ ds.length < 256 ^ 8 ∧ (pageO t ds.length ds).length ≤ 16777216 ∧ RT (nts (pageO t ds.length ds)) H Q
def spHead : Sp := fun vs H Q _ => ∃ v t m, vs = [v] ∧ Rp H v (headD t m) ∧ Q (.bl true) H
def spTold : Sp := fun vs H Q _ => ∃ (q : Addr) (os : List Nat) (r : Told), vs = [.ref q] ∧ Sq H q (nts os) ∧ PageOk os r ∧ (r = none → ∀ H', Same H H' → Q .non H') ∧
  ∀ t rows b, r = some (t, rows, b) → ∀ p v H', Same H H' → Rp H' v (.tuple rows) → H' p = some (.tup [.int (t : Int), v, .int (b : Int)]) → Q (.ref p) H'
def spPlain : Sp := fun vs H Q _ => ∃ (q q0 q1 : Addr) (os0 os1 : List Nat) (r0 r1 : Told) (pg t : Nat) (rows : List PyData) (b : Nat), vs = [.ref q] ∧ Sq H q [.ref q0, .ref q1] ∧ Sq H q0 (nts os0) ∧ Sq H q1 (nts os1) ∧ PageOk os0 r0 ∧ PageOk os1 r1 ∧ best r0 r1 = some (pg, t, rows, b) ∧
  ∀ p v H', Same H H' → Rp H' v (.tuple rows) → H' p = some (.tup [.int (pg : Int), .int (t : Int), v, .int (b : Int)]) → Q (.ref p) H'
theorem at0 {α : Type} {x : α} {l : List α} : atI (x :: l) 0 = some x := atI_nat (j := 0) rfl
section
variable {P : Program} {w : World} {K : PySem.W.Frag} {mg : Str → Option Value} {base : Heap}
theorem ok_page_octets (T : Tx P K mg) : Has P w K mg base CX0 11 (He.ga K "page_octets") p_page_octets spPage := by
  obtain ⟨_, G_write_row, b_write_row⟩ := ok_write_row (w := w) (base := base) T
  obtain ⟨fd, F, b⟩ := T.d_page_octets
  refine ⟨fd, F.ok sc_page_octets (fun vs H Q E ⟨t, a, xs, ds, e, _⟩ => by rw [e]; rfl) (fun cdv A outer s H vs Q E hr h => ?_), b⟩
  obtain ⟨t, a, xs, ds, rfl, hs, hq, hd, ht, hm, hz, k⟩ := h
  obtain ⟨x0, d0, e0, ho0⟩ := head_ok ht hm
  have hlen := hq.1
  refine ⟨_, PSs.nox (pss_cons (ps_set (i := 2) sc_page_octets.nd rfl (Or.inl rfl) (pe_call G_write_row (hr.mono (by decide)) rfl T.g_write_row T.kp_write_row b_write_row .nil pass0 (pa_cons (pe_tup (pa_cons (pe_gs T.s_HEAD) (pa_cons (pv 0) (pa_cons (pe_callB call_len_seq rfl T.f_len boot_len (pa_cons (pv 1) pa_nil)) pa_nil)))) pa_nil)))
      (pss_cons (ps_for PassesOwn.never rfl (pi_sqv _ 1) (pg_name (i := 3) sc_page_octets.nd rfl (Or.inl rfl)) (pss_one (ps_set (i := 2) sc_page_octets.nd rfl (Or.inl rfl) (pe_op op_catA (pv 2) (pe_call G_write_row (hr.mono (by decide)) rfl T.g_write_row T.kp_write_row b_write_row .nil pass0 (pa_cons (pv 3) pa_nil))))))
      (pss_one (ps_ret (pv 2))))), ?_⟩
  refine ⟨_, rfl, _, rfl, a, xs, rfl, hs.sq, sz16 (by show 3 ≤ 16777216; decide), fun t0 ht0 => ?_⟩
  have hs0 : Same H (upd H t0 (.tup [.str "page", .int (t : Int), .int (xs.length : Int)])) := same_upd ht0
  refine ⟨_, rfl, x0, d0, .inl (e0 ▸ ?_), ho0, fun p H1 s1 h1 => ?_⟩
  · rw [hlen]
    exact .tup upd_same (.cons (.str _) (.cons (.int _) (.cons (.int _) .nil)))
  rw [← e0] at h1
  have s01 := hs0.trans s1
  refine for_sq (a := a) (xs := xs) rfl (hs.up s01) (fun j σ' H' => Same H1 H' ∧ ∃ p u, σ' = [some (.int (t : Int)), some (.ref a), some (.ref p), u] ∧ H' p = some (.tup (nts (pageO t ds.length (ds.take j))))) ⟨Same.refl _, p, none, rfl, by
    rw [h1, show pageO t ds.length (ds.take 0) = form (headD t ds.length) by rw [List.take_zero, pageO, formAll_cons]; simp [formAll]]⟩ (fun j σ' H' _ h => h.1) ?_ ?_
  · rintro j x σ' H' hj ⟨s2, p, u, rfl, h2⟩
    have hj' : j < ds.length := by rw [← hlen]; exact (List.getElem?_eq_some_iff.mp hj).1
    have hdj : ds[j]? = some ds[j] := List.getElem?_eq_getElem hj'
    obtain ⟨z, dz, ez, hz2⟩ := hd _ (List.getElem_mem hj')
    have hx : Rq H' x (.tuple (.str z :: dz)) := by rw [← ez]; exact (hq.2 j x _ hj hdj).up (s01.trans s2)
    refine ⟨_, rfl, _, rfl, x, rfl, z, dz, hx, hz2, fun p2 H3 s3 h3 => ?_⟩
    rw [← ez] at h3
    have tkj : pageO t ds.length (ds.take (j + 1)) = pageO t ds.length (ds.take j) ++ form ds[j] := by
      unfold pageO
      rw [formAll_cons, formAll_cons, take_snoc hdj, formAll_snoc, List.append_assoc]
    have hle : (pageO t ds.length (ds.take (j + 1))).length ≤ (pageO t ds.length ds).length := by
      unfold pageO
      rw [formAll_cons, formAll_cons, List.length_append, List.length_append]
      have := congrArg List.length (show formAll ds = formAll (ds.take (j + 1)) ++ formAll (ds.drop (j + 1)) by rw [← formAll_append, List.take_append_drop])
      rw [List.length_append] at this
      omega
    refine cat_of (s3 _ _ h2) h3 ?_ fun p4 H4 s4 h4 => ⟨(s2.trans s3).trans s4, p4, _, rfl, ?_⟩
    · rw [← List.length_append, ← nts_append, ← tkj, nts_len]
      exact sz16 (by omega)
    · rw [h4, tkj, nts_append]
  · rintro σ' H' ⟨s2, p, u, rfl, h2⟩
    rw [List.take_of_length_le (by omega)] at h2
    exact ⟨_, rfl, k p H' (s01.trans s2) h2⟩
theorem ok_is_head (T : Tx P K mg) : Has P w K mg base CX0 3 (He.ga K "is_head") p_is_head spHead := by
  obtain ⟨_, G_is_number, b_is_number⟩ := ok_is_number (w := w) (base := base) T
  obtain ⟨fd, F, b⟩ := T.d_is_head
  refine ⟨fd, F.ok sc_is_head (fun vs H Q E ⟨v, t, m, e, _⟩ => by rw [e]; rfl) (fun cdv A outer s H vs Q E hr h => ?_), b⟩
  obtain ⟨v, t, m, rfl, hv, k⟩ := h
  refine ⟨_, PSs.nox (pss_one (ps_ret (pe_and (pe_cmpR op_eq (pe_callB call_len_seq rfl T.f_len boot_len (pa_cons (pv 0) pa_nil)) pe_int (nomark _)) (pe_and (pe_cmpR op_eq (pe_ix ix_tup (pv 0) pe_int (fun _ _ => rfl)) (pe_gs T.s_HEAD) (nomark _)) (pe_and (pe_call G_is_number (hr.mono (by decide)) rfl T.g_is_number T.kp_is_number b_is_number .nil pass0 (pa_cons (pe_ix ix_tup (pv 0) pe_int (fun _ _ => rfl)) pa_nil)) (pe_one (pe_call G_is_number (hr.mono (by decide)) rfl T.g_is_number T.kp_is_number b_is_number .nil pass0 (pa_cons (pe_ix ix_tup (pv 0) pe_int (fun _ _ => rfl)) pa_nil)))))))), ?_⟩
  cases hv with
  | @tup a xs ds e r =>
  cases r with
  | cons r1 r =>
  cases r with
  | cons r2 r =>
  cases r with
  | cons r3 r =>
  cases r
  cases r1
  cases r2
  cases r3
  have en : ∀ n : Nat, isN (V.int (n : Int)) = true := fun n => by show decide (0 ≤ (n : Int)) = true; exact decide_eq_true (by omega)
  refine ⟨_, rfl, a, _, rfl, .inr (SqT.of e), rfl, _, rfl, iteT ?_⟩
  refine ⟨_, rfl, a, _, 0, _, rfl, rfl, SqT.of e, rfl, rfl, _, rfl, iteT ?_⟩
  refine ⟨_, rfl, a, _, 1, _, rfl, rfl, SqT.of e, rfl, _, rfl, .int _, _, rfl, ?_⟩
  rw [en]
  refine iteT ⟨_, rfl, a, _, 2, _, rfl, rfl, SqT.of e, rfl, _, rfl, .int _, ?_⟩
  rw [en]
  exact k
theorem ok_page_told (T : Tx P K mg) : Has P w K mg base CX0 14 (He.ga K "page_told") p_page_told spTold := by
  obtain ⟨_, G_read_rows, b_read_rows⟩ := ok_read_rows (w := w) (base := base) T
  obtain ⟨_, G_is_head, b_is_head⟩ := ok_is_head (w := w) (base := base) T
  obtain ⟨fd, F, b⟩ := T.d_page_told
  refine ⟨fd, F.ok sc_page_told (fun vs H Q E ⟨q, os, r, e, _⟩ => by rw [e]; rfl) (fun cdv A outer s H vs Q E hr h => ?_), b⟩
  obtain ⟨q, os, r, rfl, hq, ⟨h256, W, tl, hT, hr'⟩, kN, kS⟩ := h
  refine ⟨_, PSs.nox (pss_cons (ps_asg (pe_call G_read_rows (hr.mono (by decide)) rfl T.g_read_rows T.kp_read_rows b_read_rows .nil pass0 (pa_cons (pv 0) pa_nil)) (pg_tup rfl (pgs_cons (pg_name (i := 1) sc_page_told.nd rfl (Or.inl rfl)) (pgs_cons (pg_name (i := 2) sc_page_told.nd rfl (Or.inl rfl)) pgs_nil))))
      (pss_cons (ps_if (pt_cmpR op_eq (pe_callB call_len_seq rfl T.f_len boot_len (pa_cons (pv 1) pa_nil)) pe_int (nomark _)) (pss_one (ps_ret pe_non)) pss_nil)
      (pss_cons (ps_if (pt_not (pt_val (pe_call G_is_head (hr.mono (by decide)) rfl T.g_is_head T.kp_is_head b_is_head .nil pass0 (pa_cons (pe_ix ix_tup (pv 1) pe_int (fun _ _ => rfl)) pa_nil)))) (pss_one ps_never) pss_nil)
      (pss_one (ps_ret (pe_ifExp (pt_cmpR op_gt (pe_callB call_len_seq rfl T.f_len boot_len (pa_cons (pv 1) pa_nil)) (pe_ix ix_tup (pe_ix ix_tup (pv 1) pe_int (fun _ _ => rfl)) pe_int (fun _ _ => rfl)) (nomark _)) (pe_tup (pa_cons (pe_ix ix_tup (pe_ix ix_tup (pv 1) pe_int (fun _ _ => rfl)) pe_int (fun _ _ => rfl)) (pa_cons (pe_slice sl_tupA (pv 1) (po_some pe_int) po_none) (pa_cons (pv 2) pa_nil)))) pe_non)))))), ?_⟩
  refine ⟨_, rfl, q, os, W, tl, rfl, hq, h256, hT, fun t v H1 s1 hv h1 => ?_⟩
  refine ⟨t, _, rfl, SqT.of h1, rfl, _, _, rfl, _, _, rfl, rfl, ?_⟩
  have hWl := hT.2.2.1
  cases hv with
  | @tup a xs ds e r2 =>
  have hxl := r2.len
  refine ⟨_, rfl, a, xs, rfl, .inr (SqT.of e), rfl, _, rfl, ?_⟩
  rcases hr' with ⟨rfl, rfl⟩ | ⟨t, m, rows, rfl, rfl⟩
  · rw [hxl]
    exact iteT (kN rfl H1 s1)
  · rw [hxl, decide_eq_false (fun z => by have := V.int.inj z; simp at this; omega)]
    refine iteF ?_
    cases r2 with
    | @cons v0 vs _ _ r0 rt =>
    have rt' := rt
    refine ⟨_, rfl, a, _, 0, _, rfl, rfl, SqT.of e, at0, v0, t, m, rfl, r0, _, rfl, iteF ?_⟩
    cases r0 with
    | @tup a0 xs0 ds0 e0 q0 =>
    cases q0 with
    | cons q1 q0 =>
    cases q0 with
    | cons q2 q0 =>
    cases q0 with
    | cons q3 q0 =>
    cases q0
    cases q1
    cases q2
    cases q3
    refine ⟨_, rfl, a, _, rfl, .inr (SqT.of e), _, rfl, a, _, 0, _, rfl, rfl, SqT.of e, at0, a0, _, 2, _, rfl, rfl, SqT.of e0, rfl, _, _, rfl, rfl, _, rfl, ?_⟩
    have hvl : (V.ref a0 :: vs).length = rows.length + 1 := hxl
    rw [hvl]
    by_cases hm : m ≤ rows.length
    · rw [decide_eq_true (by omega)]
      rw [if_pos hm] at kS
      refine iteT ⟨_, rfl, a, _, 0, _, rfl, rfl, SqT.of e, at0, a0, _, 1, _, rfl, rfl, SqT.of e0, rfl, _, rfl, 1, rfl, ?_⟩
      dsimp only [tNoPart]
      refine sl_of e fun p H2 s2 h2 => ⟨_, rfl, sz16 (by show 3 ≤ 16777216; decide), fun p2 hp2 => ?_⟩
      have ec : cutV (V.ref a0 :: vs) (some ((1 : Nat) : Int)) none = vs := cutV_from (by simp)
      rw [show (some (1 : Int)) = some ((1 : Nat) : Int) from rfl, ec] at h2
      exact kS t rows _ rfl p2 (.ref p) _ ((s1.trans s2).trans (same_upd hp2)) (.tup (same_upd hp2 _ _ h2) ((rt'.up (same_ts s2)).up (same_ts (same_upd hp2)))) upd_same
    · rw [decide_eq_false (by omega)]
      rw [if_neg hm] at kN
      exact iteF (kN rfl H1 s1)
theorem ok_plain_journal (T : Tx P K mg) : Has P w K mg base CX0 15 (He.ga K "plain_journal") p_plain_journal spPlain := by
  obtain ⟨_, G_is_sequence, b_is_sequence⟩ := ok_is_sequence (w := w) (base := base) T
  obtain ⟨_, G_need_octets, b_need_octets⟩ := ok_need_octets (w := w) (base := base) T
  obtain ⟨_, G_page_told, b_page_told⟩ := ok_page_told (w := w) (base := base) T
  obtain ⟨fd, F, b⟩ := T.d_plain_journal
  refine ⟨fd, F.ok sc_plain_journal (fun vs H Q E ⟨q, q0, q1, os0, os1, r0, r1, pg, t, rows, b, e, _⟩ => by rw [e]; rfl) (fun cdv A outer s H vs Q E hr h => ?_), b⟩
  obtain ⟨q, q0, q1, os0, os1, r0, r1, pg, t, rows, b, rfl, hq, h0, h1, P0, P1, hb, k⟩ := h
  refine ⟨_, PSs.nox (pss_cons (ps_if (PW.pt (pw_or (pt_not (pt_val (pe_call G_is_sequence (hr.mono (by decide)) rfl T.g_is_sequence T.kp_is_sequence b_is_sequence .nil pass0 (pa_cons (pv 0) pa_nil)))) (pw_or1 (pt_cmpR op_ne (pe_callB call_len_seq rfl T.f_len boot_len (pa_cons (pv 0) pa_nil)) pe_int (nomark _))))) (pss_one ps_never) pss_nil)
      (pss_cons (ps_set (i := 1) sc_plain_journal.nd rfl (Or.inl rfl) pe_non)
      (pss_cons (ps_for PassesOwn.never rfl (pi_env _ 0 rfl T.f_enumerate) (pg_tup rfl (pgs_cons (pg_name (i := 2) sc_plain_journal.nd rfl (Or.inl rfl)) (pgs_cons (pg_name (i := 3) sc_plain_journal.nd rfl (Or.inl rfl)) pgs_nil))) (pss_cons (ps_set (i := 4) sc_plain_journal.nd rfl (Or.inl rfl) (pe_call G_page_told (hr.mono (by decide)) rfl T.g_page_told T.kp_page_told b_page_told .nil pass0 (pa_cons (pe_call G_need_octets (hr.mono (by decide)) rfl T.g_need_octets T.kp_need_octets b_need_octets .nil pass0 (pa_cons (pv 3) pa_nil)) pa_nil)))
      (pss_one (ps_if (PW.pt (pw_and (pt_cmpR op_notN (pv 4) pe_non (nomark _)) (pw_and1 (PW.pt (pw_or (pt_cmpR op_isN (pv 1) pe_non (nomark _)) (pw_or1 (pt_cmpR op_gt (pe_ix ix_tup (pv 4) pe_int (fun _ _ => rfl)) (pe_ix ix_tup (pv 1) pe_int (fun _ _ => rfl)) (nomark _)))))))) (pss_one (ps_set (i := 1) sc_plain_journal.nd rfl (Or.inl rfl) (pe_op op_catA (pe_tup (pa_cons (pv 2) pa_nil)) (pv 4)))) pss_nil))))
      (pss_cons (ps_if (pt_cmpR op_isN (pv 1) pe_non (nomark _)) (pss_one ps_never) pss_nil)
      (pss_one (ps_ret (pv 1))))))), ?_⟩
  refine ⟨_, rfl, _, rfl, .seq hq, fun H1 s1 => ⟨_, rfl, ?_⟩⟩
  refine iteF ⟨_, rfl, q, _, rfl, (hq.up s1).sq, rfl, _, rfl, iteF ?_⟩
  refine for_env (a := q) rfl (hq.up s1) (fun j σ' H' => Same H1 H' ∧ ∃ bv u1 u2 u3, σ' = [some (.ref q), some bv, u1, u2, u3] ∧ BV H' bv (if j = 0 then none else if j = 1 then nxt 0 none r0 else best r0 r1)) ⟨Same.refl _, .non, none, none, none, rfl, rfl⟩ (fun j σ' H' _ h => h.1) ?_ ?_
  · rintro j x σ' H' tt hj ⟨s2, bv, u1, u2, u3, rfl, hbv⟩ htt
    have s3 := same_tup s2 htt (xs := [.int (j : Nat), x])
    -- one page
    have one : ∀ (qj : Addr) (os : List Nat) (r : Told) (c : Best), x = .ref qj → Sq H qj (nts os) → PageOk os r → BV H' bv c → ∀ (Nx : L2.St → Hp → Prop), (∀ bv' u1 u2 u3 H2, Same H1 H2 → BV H2 bv' (nxt j c r) → Nx [some (.ref q), some bv', u1, u2, u3] H2) →
        ∀ (D2 : Ends), D2.nx = Nx → tSeq (tAsg (tCall spTold [] E0 (tCons (tCall spOct [] E0 (tCons (tVar 3) tNil)) tNil)) (gName 4)) (tIfS (tAnd (tTest (tOp (fun x y H Q => y = .non ∧ Q (.bl (!decide (x = .non))) H) (tVar 4) (tC .non))) (tOr (tTest (tOp (fun x y H Q => y = .non ∧ Q (.bl (decide (x = .non))) H) (tVar 1) (tC .non))) (tTest (tOp (rI0 fun i j => .bl (decide (j < i))) (tOp (rIxT K) (tVar 4) (tC (.int 0))) (tOp (rIxT K) (tVar 1) (tC (.int 1))))))) (tAsg (tOp (rCatA K) (tTup (tCons (tVar 2) tNil)) (tVar 4)) (gName 1)) tNext) D2
          [some (.ref q), some bv, some (.int (j : Nat)), some x, u3] (upd H' tt (.tup [.int (j : Nat), x])) := by
      rintro qj os r c rfl hsj hP hc Nx hNx D2 rfl
      have s13 := s1.trans s3
      refine ⟨_, rfl, qj, os, rfl, hsj.up s13, hP.1, fun o H3 s4 h4 => ⟨o, os, r, rfl, .inr h4, hP, fun hn H5 s5 => ?_, fun t' rows' b' hs' p v H5 s5 hv h5 => ?_⟩⟩
      · subst hn
        refine ⟨_, rfl, rfl, _, rfl, iteF (iteF ?_)⟩
        exact hNx _ _ _ _ H5 ((s3.trans s4).trans s5) (hc.up (((same_upd htt).trans s4).trans s5))
      · subst hs'
        have s35 : Same H1 H5 := (s3.trans s4).trans s5
        have hc5 : BV H5 bv c := hc.up (((same_upd htt).trans s4).trans s5)
        refine ⟨_, rfl, rfl, _, rfl, iteT ⟨_, rfl, rfl, _, rfl, ?_⟩⟩
        have put : ∀ bv0, bv0 = bv → nxt j c (some (t', rows', b')) = some (j, t', rows', b') → tAsg (tOp (rCatA K) (tTup (tCons (tVar 2) tNil)) (tVar 4)) (gName 1) D2 [some (.ref q), some bv0, some (.int (j : Nat)), some (.ref qj), some (.ref p)] H5 := by
          rintro _ rfl hcn
          refine ⟨_, rfl, sz1, fun t1 ht1 => ⟨_, rfl, ?_⟩⟩
          refine cat_of upd_same (same_upd ht1 _ _ h5) (sz16 (by show 1 + 3 ≤ 16777216; decide)) fun p6 H6 s6 h6 => ?_
          have s56 : Same H5 H6 := (same_upd ht1).trans s6
          refine hNx _ _ _ _ H6 (s35.trans s56) ?_
          rw [hcn]
          exact ⟨p6, v, rfl, h6, hv.up (same_ts s56)⟩
        cases c with
        | none =>
          have e : bv = .non := hc5
          subst e
          exact iteT (iteT (put _ rfl rfl))
        | some cc =>
          obtain ⟨pg2, t2, rows2, b2⟩ := cc
          obtain ⟨p2, v2, rfl, g1, g2⟩ := hc5
          refine iteF ⟨_, rfl, p, _, 0, _, rfl, rfl, SqT.of h5, at0, _, rfl, p2, _, 1, _, rfl, rfl, SqT.of g1, rfl, _, _, rfl, rfl, _, rfl, ?_⟩
          by_cases hlt : t2 < t'
          · rw [decide_eq_true (by omega)]
            refine iteT (put _ rfl ?_)
            show (if t2 < t' then _ else _) = _
            rw [if_pos hlt]
          · rw [decide_eq_false (by omega)]
            refine iteF (hNx _ _ _ _ H5 s35 ?_)
            have e : nxt j (some (pg2, t2, rows2, b2)) (some (t', rows', b')) = some (pg2, t2, rows2, b2) := by
              show (if t2 < t' then _ else _) = _
              rw [if_neg hlt]
            rw [e]
            exact ⟨p2, v2, rfl, g1, g2⟩
    refine ⟨tt, _, rfl, SqT.of upd_same, rfl, _, _, rfl, _, _, rfl, rfl, ?_⟩
    have hj2 : j = 0 ∨ j = 1 := by
      have := (List.getElem?_eq_some_iff.mp hj).1
      simp at this
      omega
    rcases hj2 with rfl | rfl
    · refine one q0 os0 r0 none (Option.some.inj hj).symm h0 P0 hbv _ (fun bv' u1 u2 u3 H2 s g => ⟨s, bv', u1, u2, u3, rfl, g⟩) _ rfl
    · refine one q1 os1 r1 _ (Option.some.inj hj).symm h1 P1 hbv _ (fun bv' u1 u2 u3 H2 s g => ⟨s, bv', u1, u2, u3, rfl, g⟩) _ rfl
  · rintro σ' H' ⟨s2, bv, u1, u2, u3, rfl, hbv⟩
    have hbv2 : BV H' bv (best r0 r1) := hbv
    rw [hb] at hbv2
    obtain ⟨p, v, rfl, g1, g2⟩ := hbv2
    exact ⟨_, rfl, rfl, _, rfl, iteF ⟨_, rfl, k p v H' (s1.trans s2) g2 g1⟩⟩
end
end K53

set_option Elab.async false
set_option linter.all false
set_option maxRecDepth 100000
set_option maxHeartbeats 4000000
/-! a journal -/
namespace K53
open PySem PySem.Spec PyProof.Rows L2
theorem putF_hd {f : Str} {v v' : V} {l : List (Str × V)} : putF f v ((f, v') :: l) = (f, v) :: l := by
  show (if f = f then _ else _) = _
  rw [if_pos rfl]
theorem putF_tl {f g : Str} {v v' : V} {l : List (Str × V)} (h : ¬ g = f) : putF f v ((g, v') :: l) = (g, v') :: putF f v l := by
  show (if g = f then _ else _) = _
  rw [if_neg h]
theorem look_hd {f : Str} {v : V} {l : List (Str × V)} : ((f, v) :: l).lookup f = some v := by simp [List.lookup]
theorem look_tl {f g : Str} {v : V} {l : List (Str × V)} (h : ¬ g = f) : ((g, v) :: l).lookup f = l.lookup f := by
  have : (f == g) = false := by simpa using fun z => h z.symm
  simp [List.lookup, this]
theorem j12 : ¬ (("pages" : Str) = "page") := by decide +kernel
theorem j13 : ¬ (("pages" : Str) = "term") := by decide +kernel
theorem j14 : ¬ (("pages" : Str) = "told") := by decide +kernel
theorem j15 : ¬ (("pages" : Str) = "kept") := by decide +kernel
theorem j23 : ¬ (("page" : Str) = "term") := by decide +kernel
theorem j24 : ¬ (("page" : Str) = "told") := by decide +kernel
theorem j25 : ¬ (("page" : Str) = "kept") := by decide +kernel
theorem j34 : ¬ (("term" : Str) = "told") := by decide +kernel
theorem j35 : ¬ (("term" : Str) = "kept") := by decide +kernel
theorem j45 : ¬ (("told" : Str) = "kept") := by decide +kernel
def jf (pg : Addr) (page term : Int) (td : V) (kept : Int) : List (Str × V) := [("pages", .ref pg), ("page", .int page), ("term", .int term), ("told", td), ("kept", .int kept)]
section
variable (pg pg' : Addr) (page page' term term' : Int) (td td' : V) (kept kept' : Int)
theorem jf_new : putF "kept" (.int kept) (putF "told" td (putF "term" (.int term) (putF "page" (.int page) (putF "pages" (.ref pg) [])))) = jf pg page term td kept := by
  show putF "kept" (.int kept) (putF "told" td (putF "term" (.int term) (putF "page" (.int page) [(("pages" : Str), V.ref pg)]))) = _
  rw [putF_tl j12]
  show putF "kept" (.int kept) (putF "told" td (putF "term" (.int term) [(("pages" : Str), V.ref pg), (("page" : Str), V.int page)])) = _
  rw [putF_tl j13, putF_tl j23]
  show putF "kept" (.int kept) (putF "told" td [(("pages" : Str), V.ref pg), (("page" : Str), V.int page), (("term" : Str), V.int term)]) = _
  rw [putF_tl j14, putF_tl j24, putF_tl j34]
  show putF "kept" (.int kept) [(("pages" : Str), V.ref pg), (("page" : Str), V.int page), (("term" : Str), V.int term), (("told" : Str), td)] = _
  rw [putF_tl j15, putF_tl j25, putF_tl j35, putF_tl j45]
  rfl
theorem jf_pages : putF "pages" (.ref pg') (jf pg page term td kept) = jf pg' page term td kept := putF_hd
theorem jf_page : putF "page" (.int page') (jf pg page term td kept) = jf pg page' term td kept := by rw [jf, putF_tl j12, putF_hd]; rfl
theorem jf_term : putF "term" (.int term') (jf pg page term td kept) = jf pg page term' td kept := by rw [jf, putF_tl j13, putF_tl j23, putF_hd]; rfl
theorem jf_told : putF "told" td' (jf pg page term td kept) = jf pg page term td' kept := by rw [jf, putF_tl j14, putF_tl j24, putF_tl j34, putF_hd]; rfl
theorem jf_kept : putF "kept" (.int kept') (jf pg page term td kept) = jf pg page term td kept' := by rw [jf, putF_tl j15, putF_tl j25, putF_tl j35, putF_tl j45, putF_hd]; rfl
theorem jl_pages : (jf pg page term td kept).lookup ("pages" : Str) = some (.ref pg) := look_hd
theorem jl_page : (jf pg page term td kept).lookup ("page" : Str) = some (.int page) := by rw [jf, look_tl j12, look_hd]
theorem jl_term : (jf pg page term td kept).lookup ("term" : Str) = some (.int term) := by rw [jf, look_tl j13, look_tl j23, look_hd]
theorem jl_told : (jf pg page term td kept).lookup ("told" : Str) = some td := by rw [jf, look_tl j14, look_tl j24, look_tl j34, look_hd]
theorem jl_kept : (jf pg page term td kept).lookup ("kept" : Str) = some (.int kept) := by rw [jf, look_tl j15, look_tl j25, look_tl j35, look_tl j45, look_hd]
theorem jl_no {m : Str} (h1 : ¬ "pages" = m) (h2 : ¬ "page" = m) (h3 : ¬ "term" = m) (h4 : ¬ "told" = m) (h5 : ¬ "kept" = m) : (jf pg page term td kept).lookup m = none := by
  rw [jf, look_tl h1, look_tl h2, look_tl h3, look_tl h4, look_tl h5]
  rfl
theorem jn_written : (jf pg page term td kept).lookup ("written" : Str) = none := jl_no _ _ _ _ _ (by decide +kernel) (by decide +kernel) (by decide +kernel) (by decide +kernel) (by decide +kernel)
theorem jn_lay : (jf pg page term td kept).lookup ("lay" : Str) = none := jl_no _ _ _ _ _ (by decide +kernel) (by decide +kernel) (by decide +kernel) (by decide +kernel) (by decide +kernel)
theorem jn_keep : (jf pg page term td kept).lookup ("keep" : Str) = none := jl_no _ _ _ _ _ (by decide +kernel) (by decide +kernel) (by decide +kernel) (by decide +kernel) (by decide +kernel)
theorem jn_loose : (jf pg page term td kept).lookup ("loose" : Str) = none := jl_no _ _ _ _ _ (by decide +kernel) (by decide +kernel) (by decide +kernel) (by decide +kernel) (by decide +kernel)
theorem jn_begin : (jf pg page term td kept).lookup ("begin" : Str) = none := jl_no _ _ _ _ _ (by decide +kernel) (by decide +kernel) (by decide +kernel) (by decide +kernel) (by decide +kernel)
theorem jn_cut : (jf pg page term td kept).lookup ("cut" : Str) = none := jl_no _ _ _ _ _ (by decide +kernel) (by decide +kernel) (by decide +kernel) (by decide +kernel) (by decide +kernel)
end
abbrev cJ (K : PySem.W.Frag) : Addr := He.ga K "Journal"
/-- a journal's state -/
structure Js where
  p0 : List Nat
  p1 : List Nat
  page : Nat
  term : Nat
  rows : List PyData
  kept : Nat
def Js.cur (S : Js) : List Nat := if S.page = 0 then S.p0 else S.p1
def Js.oth (S : Js) : List Nat := if S.page = 0 then S.p1 else S.p0
def Js.put (S : Js) (os : List Nat) : Js := if S.page = 0 then { S with p0 := os } else { S with p1 := os }
/-- it stands so at j -/
def JAt (K : PySem.W.Frag) (j dx : Addr) (S : Js) (H : Hp) : Prop := S.page ≤ 1 ∧ ∃ pg q0 q1 td, H j = some (.ins (cJ K) dx (jf pg (S.page : Int) (S.term : Int) td (S.kept : Int))) ∧ H pg = some (.tup [.ref q0, .ref q1]) ∧ H q0 = some (.tup (nts S.p0)) ∧ H q1 = some (.tup (nts S.p1)) ∧ Rp H td (.tuple S.rows)
section
variable {K : PySem.W.Frag} {j dx : Addr} {S : Js} {H H' : Hp}
theorem JAt.up (h : JAt K j dx S H) (s : Same H H') : JAt K j dx S H' := by
  obtain ⟨hp, pg, q0, q1, td, h1, h2, h3, h4, h5⟩ := h
  exact ⟨hp, pg, q0, q1, td, s _ _ h1, s _ _ h2, s _ _ h3, s _ _ h4, h5.up (same_ts s)⟩
theorem sx_ts {fs : List (Str × V)} {C : Addr} (h : H j = some (.ins C dx fs)) (s : Sx (· = j) H H') : TS H H' := fun b xs hb => s b _ (fun z => by
  rw [z, h] at hb
  cases hb) hb
/-- the current page's place -/
theorem cur_at {q0 q1 : Addr} (hp : S.page ≤ 1) (h3 : H q0 = some (.tup (nts S.p0))) (h4 : H q1 = some (.tup (nts S.p1))) : ∃ q, atI [V.ref q0, V.ref q1] (S.page : Int) = some (.ref q) ∧ H q = some (.tup (nts S.cur)) := by
  by_cases z : S.page = 0
  · exact ⟨q0, by rw [z]; rfl, by rw [Js.cur, if_pos z]; exact h3⟩
  · have z1 : S.page = 1 := by omega
    exact ⟨q1, by rw [z1]; rfl, by rw [Js.cur, if_neg z]; exact h4⟩
theorem ts_ins {C : Addr} {fs : List (Str × V)} {o : HO} (h : H j = some (.ins C dx fs)) : TS H (upd H j o) := fun b xs hb => by
  have n : b ≠ j := fun z => by rw [z, h] at hb; cases hb
  rw [upd_ne n]
  exact hb
theorem sx_put {o : HO} : Sx (· = j) H (upd H j o) := sx_at (Sx.refl _ _) rfl
theorem JAt.new {S' : Js} {C : Addr} {fs : List (Str × V)} {pg q0 q1 : Addr} {td : V} (h : H j = some (.ins C dx fs)) (hp : S'.page ≤ 1) (h2 : H pg = some (.tup [.ref q0, .ref q1])) (h3 : H q0 = some (.tup (nts S'.p0))) (h4 : H q1 = some (.tup (nts S'.p1))) (h5 : Rp H td (.tuple S'.rows)) :
    JAt K j dx S' (upd H j (.ins (cJ K) dx (jf pg (S'.page : Int) (S'.term : Int) td (S'.kept : Int)))) :=
  ⟨hp, pg, q0, q1, td, upd_same, ts_ins h _ _ h2, ts_ins h _ _ h3, ts_ins h _ _ h4, h5.up (ts_ins h)⟩
def spJInit (K : PySem.W.Frag) : Sp := fun vs H Q _ => ∃ j dx, vs = [.ref j] ∧ H j = some (.ins (cJ K) dx []) ∧ ∀ H', Sx (· = j) H H' → JAt K j dx ⟨pageO 0 0 [], [], 0, 0, [], (pageO 0 0 []).length⟩ H' → Q .non H'
def spJw (K : PySem.W.Frag) : Sp := fun vs H Q _ => ∃ (j q dx : Addr) (os : List Nat) (S : Js), vs = [.ref j, .ref q] ∧ H q = some (.tup (nts os)) ∧ JAt K j dx S H ∧ ∀ H', Sx (· = j) H H' → JAt K j dx (S.put os) H' → Q .non H'
def spKeep (K : PySem.W.Frag) : Sp := fun vs H Q _ => ∃ (j dx : Addr) (S : Js), vs = [.ref j] ∧ JAt K j dx S H ∧ ∀ H', Sx (· = j) H H' → JAt K j dx { S with kept := S.cur.length } H' → Q .non H'
def spLoose (K : PySem.W.Frag) : Sp := fun vs H Q _ => ∃ (j dx : Addr) (S : Js), vs = [.ref j] ∧ JAt K j dx S H ∧ S.kept ≤ S.cur.length ∧ Q (.int ((S.cur.length - S.kept : Nat) : Int)) H
end
section
variable {P : Program} {w : World} {K : PySem.W.Frag} {mg : Str → Option Value} {base : Heap}
theorem ok_Journal_written (T : Tx P K mg) : Has P w K mg base CX0 1 (He.ma K (He.ga K "Journal") "written") p_Journal_written (spJw K) := by
  obtain ⟨fd, F, b⟩ := T.d_Journal_written
  refine ⟨fd, F.ok sc_Journal_written (fun vs H Q E ⟨j, q, dx, os, S, e, _⟩ => by rw [e]; rfl) (fun cdv A outer s H vs Q E hr h => ?_), b⟩
  obtain ⟨j, q, dx, os, S, rfl, hq, hJ, k⟩ := h
  obtain ⟨hp, pg, q0, q1, td, h1, h2, h3, h4, h5⟩ := hJ
  refine ⟨_, PSs.nox (pss_one (ps_fld (pv 0) (pe_ifExp (pt_cmpR op_eq (pe_fld (pv 0) rfl) pe_int (nomark _)) (pe_tup (pa_cons (pv 1) (pa_cons (pe_ix ix_tup (pe_fld (pv 0) rfl) pe_int (fun _ _ => rfl)) pa_nil))) (pe_tup (pa_cons (pe_ix ix_tup (pe_fld (pv 0) rfl) pe_int (fun _ _ => rfl)) (pa_cons (pv 1) pa_nil)))) rfl)), ?_⟩
  refine ⟨_, rfl, j, _, dx, _, _, rfl, h1, T.c_Journal, T.n_Journal_page, jl_page _ _ _ _ _, rfl, _, rfl, ?_⟩
  by_cases z : S.page = 0
  · rw [decide_eq_true (by rw [z]; rfl)]
    refine iteT ⟨_, rfl, _, rfl, j, _, dx, _, _, rfl, h1, T.c_Journal, T.n_Journal_pages, jl_pages _ _ _ _ _, pg, _, 1, _, rfl, rfl, SqT.of h2, rfl, sz2, fun t ht => ?_⟩
    have s1 := same_upd ht (o := .tup [.ref q, .ref q1])
    refine ⟨_, rfl, j, _, dx, _, rfl, s1 _ _ h1, T.c_Journal, T.n_Journal_pages, (by show 5 < 1000; decide), ?_⟩
    rw [jf_pages]
    refine k _ ((sx_same s1).trans sx_put) ?_
    rw [Js.put, if_pos z]
    exact JAt.new (S' := { S with p0 := os }) (s1 _ _ h1) hp upd_same (s1 _ _ hq) (s1 _ _ h4) (h5.up (same_ts s1))
  · rw [decide_eq_false (fun y => by have := V.int.inj y; omega)]
    refine iteF ⟨_, rfl, j, _, dx, _, _, rfl, h1, T.c_Journal, T.n_Journal_pages, jl_pages _ _ _ _ _, pg, _, 0, _, rfl, rfl, SqT.of h2, rfl, _, rfl, sz2, fun t ht => ?_⟩
    have s1 := same_upd ht (o := .tup [.ref q0, .ref q])
    refine ⟨_, rfl, j, _, dx, _, rfl, s1 _ _ h1, T.c_Journal, T.n_Journal_pages, (by show 5 < 1000; decide), ?_⟩
    rw [jf_pages]
    refine k _ ((sx_same s1).trans sx_put) ?_
    rw [Js.put, if_neg z]
    exact JAt.new (S' := { S with p1 := os }) (s1 _ _ h1) hp upd_same (s1 _ _ h3) (s1 _ _ hq) (h5.up (same_ts s1))
theorem ok_Journal_keep (T : Tx P K mg) : Has P w K mg base CX0 1 (He.ma K (He.ga K "Journal") "keep") p_Journal_keep (spKeep K) := by
  obtain ⟨fd, F, b⟩ := T.d_Journal_keep
  refine ⟨fd, F.ok sc_Journal_keep (fun vs H Q E ⟨j, dx, S, e, _⟩ => by rw [e]; rfl) (fun cdv A outer s H vs Q E hr h => ?_), b⟩
  obtain ⟨j, dx, S, rfl, hJ, k⟩ := h
  obtain ⟨hp, pg, q0, q1, td, h1, h2, h3, h4, h5⟩ := hJ
  obtain ⟨q, hat, hq⟩ := cur_at hp h3 h4
  refine ⟨_, PSs.nox (pss_one (ps_fld (pv 0) (pe_callB call_len_seq rfl T.f_len boot_len (pa_cons (pe_ix ix_tup (pe_fld (pv 0) rfl) (pe_fld (pv 0) rfl) (fun _ _ => rfl)) pa_nil)) rfl)), ?_⟩
  refine ⟨_, rfl, j, _, dx, _, _, rfl, h1, T.c_Journal, T.n_Journal_pages, jl_pages _ _ _ _ _, _, rfl, j, _, dx, _, _, rfl, h1, T.c_Journal, T.n_Journal_page, jl_page _ _ _ _ _, pg, _, _, _, rfl, rfl, SqT.of h2, hat, q, _, rfl, .inr (SqT.of hq), ?_⟩
  refine ⟨_, rfl, j, _, dx, _, rfl, h1, T.c_Journal, T.n_Journal_kept, (by show 5 < 1000; decide), ?_⟩
  rw [jf_kept, nts_len]
  exact k _ sx_put (JAt.new (S' := { S with kept := S.cur.length }) h1 hp h2 h3 h4 h5)
theorem ok_Journal_loose (T : Tx P K mg) : Has P w K mg base CX0 1 (He.ma K (He.ga K "Journal") "loose") p_Journal_loose (spLoose K) := by
  obtain ⟨fd, F, b⟩ := T.d_Journal_loose
  refine ⟨fd, F.ok sc_Journal_loose (fun vs H Q E ⟨j, dx, S, e, _⟩ => by rw [e]; rfl) (fun cdv A outer s H vs Q E hr h => ?_), b⟩
  obtain ⟨j, dx, S, rfl, hJ, hle, k⟩ := h
  obtain ⟨hp, pg, q0, q1, td, h1, h2, h3, h4, h5⟩ := hJ
  obtain ⟨q, hat, hq⟩ := cur_at hp h3 h4
  refine ⟨_, PSs.nox (pss_one (ps_ret (pe_op op_sub (pe_callB call_len_seq rfl T.f_len boot_len (pa_cons (pe_ix ix_tup (pe_fld (pv 0) rfl) (pe_fld (pv 0) rfl) (fun _ _ => rfl)) pa_nil)) (pe_fld (pv 0) rfl)))), ?_⟩
  refine ⟨_, rfl, j, _, dx, _, _, rfl, h1, T.c_Journal, T.n_Journal_pages, jl_pages _ _ _ _ _, _, rfl, j, _, dx, _, _, rfl, h1, T.c_Journal, T.n_Journal_page, jl_page _ _ _ _ _, pg, _, _, _, rfl, rfl, SqT.of h2, hat, q, _, rfl, .inr (SqT.of hq), _, rfl, j, _, dx, _, _, rfl, h1, T.c_Journal, T.n_Journal_kept, jl_kept _ _ _ _ _, _, _, rfl, rfl, ?_⟩
  have e : ((nts S.cur).length : Int) - (S.kept : Int) = ((S.cur.length - S.kept : Nat) : Int) := by rw [nts_len]; omega
  have k2 : Q (.int (((nts S.cur).length : Int) - (S.kept : Int))) H := by rw [e]; exact k
  exact k2
end
end K53

set_option Elab.async false
set_option linter.all false
set_option maxRecDepth 100000
set_option maxHeartbeats 4000000
/-! a journal's ways -/
namespace K53
open PySem PySem.Spec PyProof.Rows L2
def gM (us ws : List Value) : List Value := match us, ws with
  | [u], [z] => [u, z]
  | _, _ => []
def gMV (us ws : List V) : List V := match us, ws with
  | [u], [z] => [u, z]
  | _, _ => []
def gF (us ws : List Value) : List Value := match us, ws with
  | [], [z] => [z]
  | _, _ => []
def gFV (us ws : List V) : List V := match us, ws with
  | [], [z] => [z]
  | _, _ => []
theorem g_relM {vs : List V} {us : List Value} {zs : List V} {ws : List Value} (h : Vals vs us) (h2 : Vals zs ws) : Vals (gMV vs zs) (gM us ws) := by
  rcases h with _ | ⟨r, _ | ⟨_, _⟩⟩ <;> rcases h2 with _ | ⟨r2, _ | ⟨_, _⟩⟩ <;> first
    | exact .nil
    | exact .cons r (.cons r2 .nil)
theorem g_relF {vs : List V} {us : List Value} {zs : List V} {ws : List Value} (h : Vals vs us) (h2 : Vals zs ws) : Vals (gFV vs zs) (gF us ws) := by
  rcases h with _ | ⟨r, _ | ⟨_, _⟩⟩ <;> rcases h2 with _ | ⟨r2, _ | ⟨_, _⟩⟩ <;> first
    | exact .nil
    | exact .cons r2 .nil
theorem kbM {K : PySem.W.Frag} {x qual : Str} {params : Arguments} {body : List Stmt} {scope : Scope} {f : Addr} {fd : FuncData} {p q : Str} (F : FunD K x qual params body scope [] [] f fd)
    (h : ∀ (kV doc pm : Value) (an : Option Addr) (cdv ct u z : Value), bindArgs (PySem.W.fnOf x qual params body scope .none kV doc pm an cdv ct) ⟨[u], [(q, z)]⟩ = pure [(p, u), (q, z)]) : KBinds K fd [p, q] [q] gM gMV := by
  obtain ⟨oc, od, dV, kV, doc, pm, an, cdv, ct, osl, rfl, lk, hcd, hD, hK⟩ := F.ex
  rcases hD with ⟨_, rfl⟩ | ⟨e, _⟩
  · refine ⟨fun s us ws _ hl => ?_, g_relM⟩
    match us, ws, hl with
    | [u], [z], _ => exact .of_eq (h kV doc pm an cdv ct u z)
    | [], _, hl => cases hl
    | _ :: _ :: _, _, hl => cases hl
    | [_], [], hl => cases hl
    | [_], _ :: _ :: _, hl => cases hl
  · exact absurd rfl e
theorem kbF {K : PySem.W.Frag} {x qual : Str} {params : Arguments} {body : List Stmt} {scope : Scope} {f : Addr} {fd : FuncData} {q : Str} (F : FunD K x qual params body scope [] [] f fd)
    (h : ∀ (kV doc pm : Value) (an : Option Addr) (cdv ct z : Value), bindArgs (PySem.W.fnOf x qual params body scope .none kV doc pm an cdv ct) ⟨[], [(q, z)]⟩ = pure [(q, z)]) : KBinds K fd [q] [q] gF gFV := by
  obtain ⟨oc, od, dV, kV, doc, pm, an, cdv, ct, osl, rfl, lk, hcd, hD, hK⟩ := F.ex
  rcases hD with ⟨_, rfl⟩ | ⟨e, _⟩
  · refine ⟨fun s us ws _ hl => ?_, g_relF⟩
    match us, ws, hl with
    | [], [z], _ => exact .of_eq (h kV doc pm an cdv ct z)
    | _ :: _, _, hl => cases hl
    | [], [], hl => cases hl
    | [], _ :: _ :: _, hl => cases hl
  · exact absurd rfl e
def HasK (P : Program) (w : World) (K : PySem.W.Frag) (mg : Str → Option Value) (base : Heap) (CX : CXT) (k : Nat) (f : Addr) (ps : List Str) (sp : Sp) (ks : List Str) (g : List Value → List Value → List Value) (gV : List V → List V → List V) : Prop :=
  ∃ fd : FuncData, FnOk P w K mg base CX k f fd ps sp ∧ L2.Binds K fd ps [] ∧ KBinds K fd ps ks g gV
theorem pf_lt {f : Str} {v : V} {l : List (Str × V)} {n : Nat} (h : l.length < n) : (putF f v l).length < n + 1 := by
  have := pf_len f v l
  omega
theorem torn_whole {W : List PyData} (h : ∀ d ∈ W, rowD d) (hl : W.length ≤ 1000) : Torn (formAll W) W [] := by
  refine ⟨by simp, h, hl, headD 0 0, form (headD 0 0), head_ok (by decide) (by decide), fun z => ?_, rfl⟩
  have := rowD_pos (head_ok (t := 0) (m := 0) (by decide) (by decide))
  rw [z] at this
  cases this
theorem rowD_lt {d : PyData} (h : rowD d) : ∀ x ∈ form d, x < 256 := by
  obtain ⟨x, ds, rfl, hd⟩ := h
  exact (form_ok _ _ hd).2
theorem rowAll_lt : ∀ {W : List PyData}, (∀ d ∈ W, rowD d) → ∀ x ∈ formAll W, x < 256
  | [], _, x, hx => by simp [formAll] at hx
  | d :: W, h, x, hx => by
    rw [formAll_cons] at hx
    rcases List.mem_append.mp hx with e | e
    · exact rowD_lt (h d List.mem_cons_self) x e
    · exact rowAll_lt (fun d hd => h d (List.mem_cons_of_mem _ hd)) x e
theorem formAll_one (d : PyData) : formAll [d] = form d := by rw [formAll_cons]; simp [formAll]
def Js.lay (S : Js) (d : PyData) : Js := { S.put (S.cur ++ form d) with rows := S.rows ++ [d] }
def Js.begin (S : Js) (ds : List PyData) : Js := { ({ S with page := 1 - S.page, term := S.term + 1 } : Js).put (pageO (S.term + 1) ds.length ds) with rows := ds, kept := 0 }
def Js.cut1 (S : Js) (left : Nat) : Js := S.put (S.cur.take (S.kept + left))
def Js.goto (S : Js) (pg t : Nat) (rows : List PyData) (b : Nat) : Js := { ({ S with page := pg, term := t, rows := rows } : Js).put (({ S with page := pg, term := t, rows := rows } : Js).cur.take b) with kept := b }
def spLay (K : PySem.W.Frag) : Sp := fun vs H Q _ => ∃ (j dx : Addr) (v : V) (S : Js) (d : PyData), vs = [.ref j, v] ∧ Rq H v d ∧ rowD d ∧ JAt K j dx S H ∧ S.cur.length + (form d).length ≤ 16777216 ∧ S.rows.length ≤ 1000 ∧ ∀ H', Sx (· = j) H H' → JAt K j dx (S.lay d) H' → Q (.int ((S.rows.length + 1 : Nat) : Int)) H'
def spBegin (K : PySem.W.Frag) : Sp := fun vs H Q _ => ∃ (j dx a : Addr) (xs : List V) (S : Js) (ds : List PyData), vs = [.ref j, .ref a] ∧ Sq H a xs ∧ RqAll H xs ds ∧ (∀ d ∈ ds, rowD d) ∧ JAt K j dx S H ∧ S.term + 1 < 256 ^ 8 ∧ ds.length < 1000 ∧ (pageO (S.term + 1) ds.length ds).length ≤ 16777216 ∧
  ∀ H', Sx (· = j) H H' → JAt K j dx (S.begin ds) H' → Q .non H'
def spCut (K : PySem.W.Frag) : Sp := fun vs H Q _ => ∃ (j dx : Addr) (S : Js) (left : Nat) (r0 r1 : Told) (pg t : Nat) (rows : List PyData) (b : Nat), vs = [.ref j, .int (left : Int)] ∧ JAt K j dx S H ∧ S.kept + left ≤ S.cur.length ∧ PageOk (S.cut1 left).p0 r0 ∧ PageOk (S.cut1 left).p1 r1 ∧ best r0 r1 = some (pg, t, rows, b) ∧ pg ≤ 1 ∧
  b ≤ ({ S.cut1 left with page := pg } : Js).cur.length ∧ ∀ H', Sx (· = j) H H' → JAt K j dx ((S.cut1 left).goto pg t rows b) H' → Q .non H'
def spOpen (K : PySem.W.Frag) : Sp := fun vs H Q _ => ∃ (a q0 q1 : Addr) (os0 os1 : List Nat) (r0 r1 : Told) (pg t : Nat) (rows : List PyData) (b : Nat), vs = [.ref a] ∧ H a = some (.lst [.ref q0, .ref q1]) ∧ Sq H q0 (nts os0) ∧ Sq H q1 (nts os1) ∧ PageOk os0 r0 ∧ PageOk os1 r1 ∧ best r0 r1 = some (pg, t, rows, b) ∧ pg ≤ 1 ∧
  b ≤ (if pg = 0 then os0 else os1).length ∧ ∀ j dx H', Same H H' → H j = none → JAt K j dx ((⟨os0, os1, 0, 0, [], 0⟩ : Js).goto pg t rows b) H' → Q (.ref j) H'
section
variable {P : Program} {w : World} {K : PySem.W.Frag} {mg : Str → Option Value} {base : Heap}
theorem ok_Journal_init (T : Tx P K mg) : Has P w K mg base CX0 12 (He.ma K (He.ga K "Journal") "__init__") p_Journal_init (spJInit K) := by
  obtain ⟨_, G_page_octets, b_page_octets⟩ := ok_page_octets (w := w) (base := base) T
  obtain ⟨fd, F, b⟩ := T.d_Journal_init
  refine ⟨fd, F.ok sc_Journal_init (fun vs H Q E ⟨j, dx, e, _⟩ => by rw [e]; rfl) (fun cdv A outer s H vs Q E hr h => ?_), b⟩
  obtain ⟨j, dx, rfl, hj, k⟩ := h
  refine ⟨_, PSs.nox (pss_cons (ps_fld (pv 0) (pe_tup (pa_cons (pe_call G_page_octets (hr.mono (by decide)) rfl T.g_page_octets T.kp_page_octets b_page_octets .nil pass0 (pa_cons pe_int (pa_cons (pe_tup pa_nil) pa_nil))) (pa_cons (pe_tup pa_nil) pa_nil))) rfl)
      (pss_cons (ps_fld (pv 0) pe_int rfl)
      (pss_cons (ps_fld (pv 0) pe_int rfl)
      (pss_cons (ps_fld (pv 0) (pe_tup pa_nil) rfl)
      (pss_one (ps_fld (pv 0) (pe_callB call_len_seq rfl T.f_len boot_len (pa_cons (pe_ix ix_tup (pe_fld (pv 0) rfl) pe_int (fun _ _ => rfl)) pa_nil)) rfl)))))), ?_⟩
  have h8 : (pageO 0 0 []).length ≤ 16777216 := by decide +kernel
  refine ⟨Nat.zero_le _, fun t0 ht0 => ⟨0, t0, [], [], rfl, .inr upd_same, ⟨rfl, fun i v d h => by cases h⟩, fun d hd => (by cases hd), by decide, by decide, h8, fun p H1 s1 h1 => ?_⟩⟩
  refine ⟨Nat.zero_le _, fun t1 ht1 => ⟨sz2, fun t2 ht2 => ?_⟩⟩
  have s2 : Same H (upd (upd H1 t1 (.tup [])) t2 (.tup [.ref p, .ref t1])) := (((same_upd ht0).trans s1).trans (same_upd ht1)).trans (same_upd ht2)
  have hp2 := same_upd ht2 (o := .tup [.ref p, .ref t1]) _ _ (same_upd ht1 (o := .tup []) _ _ h1)
  have ht1' := same_upd ht2 (o := .tup [.ref p, .ref t1]) _ _ (upd_same (H := H1) (a := t1) (o := .tup []))
  have ht2' := upd_same (H := upd H1 t1 (.tup [])) (a := t2) (o := .tup [.ref p, .ref t1])
  have hj2 := s2 _ _ hj
  refine ⟨_, rfl, j, _, dx, _, rfl, hj2, T.c_Journal, T.n_Journal_pages, (by show 0 < 1000; decide), ?_⟩
  refine ⟨_, rfl, j, _, dx, _, rfl, upd_same, T.c_Journal, T.n_Journal_page, Nat.lt_of_lt_of_le (pf_lt Nat.zero_lt_one) (by decide), ?_⟩
  refine ⟨_, rfl, j, _, dx, _, rfl, upd_same, T.c_Journal, T.n_Journal_term, Nat.lt_of_lt_of_le (pf_lt (pf_lt Nat.zero_lt_one)) (by decide), ?_⟩
  refine ⟨Nat.zero_le _, fun t3 ht3 => ⟨_, rfl, j, _, dx, _, rfl, same_upd ht3 _ _ upd_same, T.c_Journal, T.n_Journal_told, Nat.lt_of_lt_of_le (pf_lt (pf_lt (pf_lt Nat.zero_lt_one))) (by decide), ?_⟩⟩
  have w1 := ts_ins (o := .ins (cJ K) dx (putF "pages" (.ref t2) [])) hj2
  have w2 := w1.trans (ts_ins (o := .ins (cJ K) dx (putF "page" (.int 0) (putF "pages" (.ref t2) []))) upd_same)
  have w3 := w2.trans (ts_ins (o := .ins (cJ K) dx (putF "term" (.int 0) (putF "page" (.int 0) (putF "pages" (.ref t2) [])))) upd_same)
  have w4 := w3.trans (same_ts (same_upd ht3 (o := .tup [])))
  have w45 := ts_ins (o := .ins (cJ K) dx (putF "told" (.ref t3) (putF "term" (.int 0) (putF "page" (.int 0) (putF "pages" (.ref t2) []))))) (same_upd ht3 (o := .tup []) _ _ (upd_same (o := .ins (cJ K) dx (putF "term" (.int 0) (putF "page" (.int 0) (putF "pages" (.ref t2) []))))))
  have w5 := w4.trans w45
  have x1 : Sx (· = j) H _ := (sx_same s2).trans (sx_put (o := .ins (cJ K) dx (putF "pages" (.ref t2) [])))
  have x2 := x1.trans (sx_put (o := .ins (cJ K) dx (putF "page" (.int 0) (putF "pages" (.ref t2) []))))
  have x3 := x2.trans (sx_put (o := .ins (cJ K) dx (putF "term" (.int 0) (putF "page" (.int 0) (putF "pages" (.ref t2) [])))))
  have x4 := x3.trans (sx_same (same_upd ht3 (o := .tup [])))
  have x5 := x4.trans (sx_put (o := .ins (cJ K) dx (putF "told" (.ref t3) (putF "term" (.int 0) (putF "page" (.int 0) (putF "pages" (.ref t2) []))))))
  refine ⟨_, rfl, j, _, dx, _, _, rfl, upd_same, T.c_Journal, T.n_Journal_pages, (by rw [lookup_putF, if_neg j14, lookup_putF, if_neg j13, lookup_putF, if_neg j12, lookup_putF, if_pos rfl]), t2, _, 0, _, rfl, rfl, SqT.of (w5 _ _ ht2'), rfl, p, _, rfl, .inr (SqT.of (w5 _ _ hp2)), ?_⟩
  refine ⟨_, rfl, j, _, dx, _, rfl, upd_same, T.c_Journal, T.n_Journal_kept, Nat.lt_of_lt_of_le (pf_lt (pf_lt (pf_lt (pf_lt Nat.zero_lt_one)))) (by decide), ?_⟩
  rw [jf_new, nts_len]
  have ht3' := w45 t3 [] upd_same
  exact k _ (x5.trans sx_put) (JAt.new (S' := ⟨pageO 0 0 [], [], 0, 0, [], (pageO 0 0 []).length⟩) upd_same (Nat.zero_le _) (w5 _ _ ht2') (w5 _ _ hp2) (w5 _ _ ht1') (.tup ht3' .nil))
theorem ok_Journal_lay (T : Tx P K mg) : HasK P w K mg base CX0 14 (He.ma K (He.ga K "Journal") "lay") p_Journal_lay (spLay K) ["row"] gM gMV := by
  obtain ⟨_, G_write_row, b_write_row⟩ := ok_write_row (w := w) (base := base) T
  obtain ⟨_, G_Journal_written, b_Journal_written⟩ := ok_Journal_written (w := w) (base := base) T
  obtain ⟨_, G_read_rows, b_read_rows⟩ := ok_read_rows (w := w) (base := base) T
  obtain ⟨fd, F, b⟩ := T.d_Journal_lay
  refine ⟨fd, F.ok sc_Journal_lay (fun vs H Q E ⟨j, dx, v, S, d, e, _⟩ => by rw [e]; rfl) (fun cdv A outer s H vs Q E hr h => ?_), b, kbM F fun _ _ _ _ _ _ _ _  => rfl⟩
  obtain ⟨j, dx, v, S, d, rfl, hv, hd, hJ, hz, hrl, k⟩ := h
  obtain ⟨x, ds, ed, hok⟩ := id hd
  refine ⟨_, PSs.nox (pss_cons (ps_set (i := 2) sc_Journal_lay.nd rfl (Or.inl rfl) (pe_call G_write_row (hr.mono (by decide)) rfl T.g_write_row T.kp_write_row b_write_row .nil pass0 (pa_cons (pv 1) pa_nil)))
      (pss_cons (ps_expr (pe_meth (pv 0) T.c_Journal T.m_Journal_written G_Journal_written (hr.mono (by decide)) b_Journal_written .nil pass0 (pa_cons (pe_op op_catA (pe_ix ix_tup (pe_fld (pv 0) rfl) (pe_fld (pv 0) rfl) (fun _ _ => rfl)) (pv 2)) pa_nil)))
      (pss_cons (ps_fld (pv 0) (pe_op op_catA (pe_fld (pv 0) rfl) (pe_ix ix_tup (pe_call G_read_rows (hr.mono (by decide)) rfl T.g_read_rows T.kp_read_rows b_read_rows .nil pass0 (pa_cons (pv 2) pa_nil)) pe_int (fun _ _ => rfl))) rfl)
      (pss_one (ps_ret (pe_callB call_len_seq rfl T.f_len boot_len (pa_cons (pe_fld (pv 0) rfl) pa_nil))))))), ?_⟩
  refine ⟨_, rfl, v, rfl, x, ds, ed ▸ hv, hok, fun p H1 s1 h1 => ?_⟩
  rw [← ed] at h1
  have hJ1 := hJ.up s1
  obtain ⟨hp, pg, q0, q1, td, h1j, h2, h3, h4, h5⟩ := id hJ1
  obtain ⟨q, hat, hq⟩ := cur_at hp h3 h4
  refine ⟨_, rfl, j, dx, _, rfl, h1j, jn_written _ _ _ _ _, _, rfl, j, _, dx, _, _, rfl, h1j, T.c_Journal, T.n_Journal_pages, jl_pages _ _ _ _ _, _, rfl, j, _, dx, _, _, rfl, h1j, T.c_Journal, T.n_Journal_page, jl_page _ _ _ _ _, pg, _, _, _, rfl, rfl, SqT.of h2, hat, _, rfl, ?_⟩
  refine cat_of hq h1 (by rw [nts_len, nts_len]; exact sz16 hz) fun q2 H2 s2 h6 => ?_
  rw [← nts_append] at h6
  refine ⟨j, q2, dx, S.cur ++ form d, S, rfl, h6, hJ1.up s2, fun H3 s3 J3 => ?_⟩
  have hp3 : H3 p = some (.tup (nts (form d))) := sx_ts (s2 _ _ h1j) s3 _ _ (s2 _ _ h1)
  obtain ⟨hp', pg', q0', q1', td', g1, g2, g3, g4, g5⟩ := id J3
  refine ⟨_, rfl, j, _, dx, _, _, rfl, g1, T.c_Journal, T.n_Journal_told, jl_told _ _ _ _ _, _, rfl, p, form d, [d], [], rfl, .inr hp3, rowD_lt hd, ?_, fun t v' H4 s4 hv' h7 => ?_⟩
  · have := torn_whole (W := [d]) (fun y hy => by rw [List.mem_singleton.mp hy]; exact hd) (by show 1 ≤ 1000; decide)
    rw [formAll_one] at this
    exact this
  refine ⟨t, _, 0, _, rfl, rfl, SqT.of h7, at0, ?_⟩
  have ePut : (S.put (S.cur ++ form d)).rows = S.rows := by unfold Js.put; split <;> rfl
  rw [ePut] at g5
  have g5' := g5.up (same_ts s4)
  cases g5' with
  | @tup a1 xs1 _ e1 r1 =>
  cases hv' with
  | @tup a2 xs2 _ e2 r2 =>
  have l1 := r1.len
  have l2 := r2.len
  refine cat_of e1 e2 (by rw [l1, l2]; exact sz16 (by show S.rows.length + 1 ≤ 16777216; omega)) fun q5 H5 s5 h8 => ?_
  have s45 := s4.trans s5
  refine ⟨_, rfl, j, _, dx, _, rfl, s45 _ _ g1, T.c_Journal, T.n_Journal_told, (by show 5 < 1000; decide), ?_⟩
  rw [jf_told]
  have hrp : Rp H5 (.ref q5) (.tuple (S.rows ++ [d])) := .tup h8 ((r1.up (same_ts s5)).app (r2.up (same_ts s5)))
  have hJ5 := JAt.new (K := K) (S' := S.lay d) (td := .ref q5) (s45 _ _ g1) hp' (s45 _ _ g2) (s45 _ _ g3) (s45 _ _ g4) hrp
  have hq5 := ts_ins (o := .ins (cJ K) dx (jf pg' ((S.put (S.cur ++ form d)).page : Int) ((S.put (S.cur ++ form d)).term : Int) (.ref q5) ((S.put (S.cur ++ form d)).kept : Int))) (s45 _ _ g1) _ _ h8
  refine ⟨_, rfl, j, _, dx, _, _, rfl, upd_same, T.c_Journal, T.n_Journal_told, jl_told _ _ _ _ _, q5, _, rfl, .inr (SqT.of hq5), ?_⟩
  have el : (xs1 ++ xs2).length = S.rows.length + 1 := by rw [List.length_append, l1, l2]; rfl
  rw [el]
  exact k _ (((((sx_same (s1.trans s2)) : Sx (· = j) H H2).trans s3).trans (sx_same s45)).trans sx_put) hJ5
theorem ok_Journal_begin (T : Tx P K mg) : HasK P w K mg base CX0 14 (He.ma K (He.ga K "Journal") "begin") p_Journal_begin (spBegin K) ["rows"] gM gMV := by
  obtain ⟨_, G_is_sequence, b_is_sequence⟩ := ok_is_sequence (w := w) (base := base) T
  obtain ⟨_, G_page_octets, b_page_octets⟩ := ok_page_octets (w := w) (base := base) T
  obtain ⟨_, G_Journal_keep, b_Journal_keep⟩ := ok_Journal_keep (w := w) (base := base) T
  obtain ⟨_, G_Journal_written, b_Journal_written⟩ := ok_Journal_written (w := w) (base := base) T
  obtain ⟨_, G_read_rows, b_read_rows⟩ := ok_read_rows (w := w) (base := base) T
  obtain ⟨fd, F, b⟩ := T.d_Journal_begin
  refine ⟨fd, F.ok sc_Journal_begin (fun vs H Q E ⟨j, dx, a, xs, S, ds, e, _⟩ => by rw [e]; rfl) (fun cdv A outer s H vs Q E hr h => ?_), b, kbM F fun _ _ _ _ _ _ _ _  => rfl⟩
  obtain ⟨j, dx, a, xs, S, ds, rfl, hs, hq, hd, hJ, ht, hl, hz, k⟩ := h
  refine ⟨_, PSs.nox (pss_cons (ps_if (pt_not (pt_val (pe_call G_is_sequence (hr.mono (by decide)) rfl T.g_is_sequence T.kp_is_sequence b_is_sequence .nil pass0 (pa_cons (pv 1) pa_nil)))) (pss_one ps_never) pss_nil)
      (pss_cons (ps_set (i := 2) sc_Journal_begin.nd rfl (Or.inl rfl) (pe_call G_page_octets (hr.mono (by decide)) rfl T.g_page_octets T.kp_page_octets b_page_octets .nil pass0 (pa_cons (pe_op op_add (pe_fld (pv 0) rfl) pe_int) (pa_cons (pv 1) pa_nil))))
      (pss_cons (ps_expr (pe_meth0 (pv 0) T.c_Journal T.m_Journal_keep G_Journal_keep (hr.mono (by decide)) b_Journal_keep .nil pass0))
      (pss_cons (ps_fld (pv 0) (pe_op op_sub pe_int (pe_fld (pv 0) rfl)) rfl)
      (pss_cons (ps_fldaug (pv 0) pe_int in_add)
      (pss_cons (ps_expr (pe_meth (pv 0) T.c_Journal T.m_Journal_written G_Journal_written (hr.mono (by decide)) b_Journal_written .nil pass0 (pa_cons (pv 2) pa_nil)))
      (pss_cons (ps_fld (pv 0) (pe_slice sl_tupA (pe_ix ix_tup (pe_call G_read_rows (hr.mono (by decide)) rfl T.g_read_rows T.kp_read_rows b_read_rows .nil pass0 (pa_cons (pv 2) pa_nil)) pe_int (fun _ _ => rfl)) (po_some pe_int) po_none) rfl)
      (pss_one (ps_fld (pv 0) pe_int rfl))))))))), ?_⟩
  refine ⟨_, rfl, _, rfl, .seq hs, fun H1 s1 => ⟨_, rfl, iteF ?_⟩⟩
  have hJ1 := hJ.up s1
  obtain ⟨hp, pg, q0, q1, td, g1, g2, g3, g4, g5⟩ := id hJ1
  refine ⟨_, rfl, j, _, dx, _, _, rfl, g1, T.c_Journal, T.n_Journal_term, jl_term _ _ _ _ _, _, _, rfl, rfl, _, rfl, S.term + 1, a, xs, ds, rfl, hs.up s1, hq.up s1, hd, ht, by omega, hz, fun p H2 s2 h2 => ?_⟩
  have hJ2 := hJ1.up s2
  refine ⟨_, rfl, j, dx, _, rfl, s2 _ _ g1, jn_keep _ _ _ _ _, j, dx, S, rfl, hJ2, fun H3 s3 J3 => ?_⟩
  have hp3 := sx_ts (s2 _ _ g1) s3 _ _ h2
  obtain ⟨hpp, pg', q0', q1', td', f1, f2, f3, f4, f5⟩ := id J3
  have ep : (1 : Int) - (S.page : Int) = ((1 - S.page : Nat) : Int) := by omega
  have et : (S.term : Int) + 1 = ((S.term + 1 : Nat) : Int) := by omega
  refine ⟨_, rfl, j, _, dx, _, _, rfl, f1, T.c_Journal, T.n_Journal_page, jl_page _ _ _ _ _, _, _, rfl, rfl, _, rfl, j, _, dx, _, rfl, f1, T.c_Journal, T.n_Journal_page, (by show 5 < 1000; decide), ?_⟩
  rw [jf_page]
  refine ⟨_, rfl, j, _, dx, _, _, rfl, upd_same, T.c_Journal, T.n_Journal_term, jl_term _ _ _ _ _, _, _, rfl, rfl, dx, _, upd_same, (by show 5 < 1000; decide), ?_⟩
  rw [jf_term]
  dsimp only
  rw [ep, et]
  generalize eS1 : ({ S with page := 1 - S.page, term := S.term + 1, kept := S.cur.length } : Js) = S1
  have y1 := ts_ins (o := .ins (cJ K) dx (jf pg' ((1 - S.page : Nat) : Int) (S.term : Int) td' (S.cur.length : Int))) f1
  have hJ4 : JAt K j dx S1 (upd (upd H3 j (.ins (cJ K) dx (jf pg' ((1 - S.page : Nat) : Int) (S.term : Int) td' (S.cur.length : Int)))) j (.ins (cJ K) dx (jf pg' ((1 - S.page : Nat) : Int) ((S.term + 1 : Nat) : Int) td' (S.cur.length : Int)))) := by
    rw [← eS1]
    exact JAt.new (K := K) (S' := { S with page := 1 - S.page, term := S.term + 1, kept := S.cur.length }) upd_same (by show 1 - S.page ≤ 1; omega) (y1 _ _ f2) (y1 _ _ f3) (y1 _ _ f4) (f5.up y1)
  have x4 : Sx (· = j) H3 (upd (upd H3 j (.ins (cJ K) dx (jf pg' ((1 - S.page : Nat) : Int) (S.term : Int) td' (S.cur.length : Int)))) j (.ins (cJ K) dx (jf pg' ((1 - S.page : Nat) : Int) ((S.term + 1 : Nat) : Int) td' (S.cur.length : Int)))) := sx_put.trans sx_put
  have hp4 := sx_ts f1 x4 _ _ hp3
  generalize upd (upd H3 j (.ins (cJ K) dx (jf pg' ((1 - S.page : Nat) : Int) (S.term : Int) td' (S.cur.length : Int)))) j (.ins (cJ K) dx (jf pg' ((1 - S.page : Nat) : Int) ((S.term + 1 : Nat) : Int) td' (S.cur.length : Int))) = H4 at hJ4 x4 hp4 ⊢
  obtain ⟨_, _, _, _, _, m1, _⟩ := id hJ4
  refine ⟨_, rfl, j, dx, _, rfl, m1, jn_written _ _ _ _ _, _, rfl, j, p, dx, _, S1, rfl, hp4, hJ4, fun H5 x5 J5 => ?_⟩
  have hp5 := sx_ts m1 x5 _ _ hp4
  obtain ⟨_, pg6, q06, q16, td6, n1, n2, n3, n4, n5⟩ := id J5
  have hrow : ∀ d ∈ headD (S.term + 1) ds.length :: ds, rowD d := fun d hd' => by
    rcases List.mem_cons.mp hd' with e | e
    · rw [e]; exact head_ok ht (by omega)
    · exact hd d e
  refine ⟨_, rfl, p, _, headD (S.term + 1) ds.length :: ds, [], rfl, .inr hp5, rowAll_lt hrow, torn_whole hrow (by simp; omega), fun t v' H6 s6 hv' h7 => ?_⟩
  refine ⟨t, _, 0, _, rfl, rfl, SqT.of h7, at0, 1, rfl, ?_⟩
  dsimp only [tNoPart]
  cases hv' with
  | @tup a2 xs2 _ e2 r2 =>
  cases r2 with
  | @cons v0 vs _ _ r0 rt =>
  refine sl_of e2 fun q7 H7 s7 h8 => ?_
  have ec : cutV (v0 :: vs) (some ((1 : Nat) : Int)) none = vs := cutV_from (by simp)
  rw [show (some (1 : Int)) = some ((1 : Nat) : Int) from rfl, ec] at h8
  have s67 := s6.trans s7
  refine ⟨_, rfl, j, _, dx, _, rfl, s67 _ _ n1, T.c_Journal, T.n_Journal_told, (by show 5 < 1000; decide), ?_⟩
  rw [jf_told]
  refine ⟨_, rfl, j, _, dx, _, rfl, upd_same, T.c_Journal, T.n_Journal_kept, (by show 5 < 1000; decide), ?_⟩
  rw [jf_kept]
  have eB : S.begin ds = { S1.put (pageO (S.term + 1) ds.length ds) with rows := ds, kept := 0 } := by
    rw [← eS1]
    unfold Js.begin Js.put
    split <;> rfl
  refine k _ ?_ ?_
  · exact (((((((sx_same (s1.trans s2)) : Sx (· = j) H H2).trans s3).trans x4).trans x5).trans (sx_same s67)).trans sx_put).trans sx_put
  · rw [eB]
    have y2 := ts_ins (o := .ins (cJ K) dx (jf pg6 ((S1.put (pageO (S.term + 1) ds.length ds)).page : Int) ((S1.put (pageO (S.term + 1) ds.length ds)).term : Int) (.ref q7) ((S1.put (pageO (S.term + 1) ds.length ds)).kept : Int))) (s67 _ _ n1)
    have hpg : (S1.put (pageO (S.term + 1) ds.length ds)).page ≤ 1 := by obtain ⟨z, _⟩ := J5; exact z
    exact JAt.new (K := K) (S' := { S1.put (pageO (S.term + 1) ds.length ds) with rows := ds, kept := 0 }) upd_same hpg (y2 _ _ (s67 _ _ n2)) (y2 _ _ (s67 _ _ n3)) (y2 _ _ (s67 _ _ n4)) (.tup (y2 _ _ h8) ((rt.up (same_ts s7)).up y2))
theorem ok_Journal_cut (T : Tx P K mg) : HasK P w K mg base CX0 16 (He.ma K (He.ga K "Journal") "cut") p_Journal_cut (spCut K) ["left"] gM gMV := by
  obtain ⟨_, G_is_below, b_is_below⟩ := ok_is_below (w := w) (base := base) T
  obtain ⟨_, G_Journal_loose, b_Journal_loose⟩ := ok_Journal_loose (w := w) (base := base) T
  obtain ⟨_, G_Journal_written, b_Journal_written⟩ := ok_Journal_written (w := w) (base := base) T
  obtain ⟨_, G_plain_journal, b_plain_journal⟩ := ok_plain_journal (w := w) (base := base) T
  obtain ⟨fd, F, b⟩ := T.d_Journal_cut
  refine ⟨fd, F.ok sc_Journal_cut (fun vs H Q E ⟨j, dx, S, left, r0, r1, pg, t, rows, b, e, _⟩ => by rw [e]; rfl) (fun cdv A outer s H vs Q E hr h => ?_), b, kbM F fun _ _ _ _ _ _ _ _  => rfl⟩
  obtain ⟨j, dx, S, left, r0, r1, pgn, t, rows, b, rfl, hJ, hle, P0, P1, hb, hpg1, hbl, k⟩ := h
  obtain ⟨hp, pg, q0, q1, td, g1, g2, g3, g4, g5⟩ := id hJ
  obtain ⟨q, hat, hq⟩ := cur_at hp g3 g4
  refine ⟨_, PSs.nox (pss_cons (ps_if (pt_not (pt_val (pe_call G_is_below (hr.mono (by decide)) rfl T.g_is_below T.kp_is_below b_is_below .nil pass0 (pa_cons (pv 1) (pa_cons (pe_op op_add (pe_meth0 (pv 0) T.c_Journal T.m_Journal_loose G_Journal_loose (hr.mono (by decide)) b_Journal_loose .nil pass0) pe_int) pa_nil))))) (pss_one ps_never) pss_nil)
      (pss_cons (ps_expr (pe_meth (pv 0) T.c_Journal T.m_Journal_written G_Journal_written (hr.mono (by decide)) b_Journal_written .nil pass0 (pa_cons (pe_slice sl_tupA (pe_ix ix_tup (pe_fld (pv 0) rfl) (pe_fld (pv 0) rfl) (fun _ _ => rfl)) po_none (po_some (pe_op op_add (pe_fld (pv 0) rfl) (pv 1)))) pa_nil)))
      (pss_cons (ps_asg (pe_call G_plain_journal (hr.mono (by decide)) rfl T.g_plain_journal T.kp_plain_journal b_plain_journal .nil pass0 (pa_cons (pe_fld (pv 0) rfl) pa_nil)) (pg_tup rfl (pgs_cons (pg_fld (pv 0)) (pgs_cons (pg_fld (pv 0)) (pgs_cons (pg_fld (pv 0)) (pgs_cons (pg_name (i := 2) sc_Journal_cut.nd rfl (Or.inl rfl)) pgs_nil))))))
      (pss_cons (ps_expr (pe_meth (pv 0) T.c_Journal T.m_Journal_written G_Journal_written (hr.mono (by decide)) b_Journal_written .nil pass0 (pa_cons (pe_slice sl_tupA (pe_ix ix_tup (pe_fld (pv 0) rfl) (pe_fld (pv 0) rfl) (fun _ _ => rfl)) po_none (po_some (pv 2))) pa_nil)))
      (pss_one (ps_fld (pv 0) (pv 2) rfl)))))), ?_⟩
  refine ⟨_, rfl, _, rfl, j, dx, _, rfl, g1, jn_loose _ _ _ _ _, j, dx, S, rfl, hJ, by omega, _, _, rfl, rfl, _, _, rfl, .int _, _, rfl, ?_⟩
  have eb : isB (((S.cur.length - S.kept : Nat) : Int) + 1) (V.int (left : Int)) = true := by
    show (decide (0 ≤ (left : Int)) && decide ((left : Int) < ((S.cur.length - S.kept : Nat) : Int) + 1)) = true
    rw [decide_eq_true (by omega), decide_eq_true (by omega)]
    rfl
  rw [eb]
  refine iteF ?_
  refine ⟨_, rfl, j, dx, _, rfl, g1, jn_written _ _ _ _ _, _, rfl, j, _, dx, _, _, rfl, g1, T.c_Journal, T.n_Journal_pages, jl_pages _ _ _ _ _, _, rfl, j, _, dx, _, _, rfl, g1, T.c_Journal, T.n_Journal_page, jl_page _ _ _ _ _, pg, _, _, _, rfl, rfl, SqT.of g2, hat, ?_⟩
  dsimp only [tNoPart]
  refine ⟨_, rfl, j, _, dx, _, _, rfl, g1, T.c_Journal, T.n_Journal_kept, jl_kept _ _ _ _ _, _, rfl, _, _, rfl, rfl, _, rfl, ?_⟩
  refine sl_of hq fun p1 H1 s1 h1 => ?_
  have ec : cutV (nts S.cur) none (some ((S.kept + left : Nat) : Int)) = nts (S.cur.take (S.kept + left)) := by
    rw [cutV_to (by rw [nts_len]; exact hle), nts, nts, List.map_take]
  rw [show (some ((S.kept : Int) + (left : Int))) = some ((S.kept + left : Nat) : Int) by rw [Int.natCast_add], ec] at h1
  refine ⟨j, p1, dx, _, S, rfl, h1, hJ.up s1, fun H2 x2 J2 => ?_⟩
  have J2' : JAt K j dx (S.cut1 left) H2 := J2
  have X2 : Sx (· = j) H H2 := (sx_same s1).trans x2
  clear J2 x2 h1 hq hat g1 g2 g3 g4 g5 s1
  generalize S.cut1 left = C at *
  obtain ⟨hp2, pg2, q02, q12, td2, m1, m2, m3, m4, m5⟩ := id J2'
  refine ⟨_, rfl, j, _, dx, _, _, rfl, m1, T.c_Journal, T.n_Journal_pages, jl_pages _ _ _ _ _, pg2, q02, q12, C.p0, C.p1, r0, r1, pgn, t, rows, b, rfl, .inr m2, .inr m3, .inr m4, P0, P1, hb, fun p v H3 s3 hv h3 => ?_⟩
  refine ⟨p, _, rfl, SqT.of h3, rfl, _, _, rfl, _, rfl, j, _, dx, _, rfl, s3 _ _ m1, T.c_Journal, T.n_Journal_page, (by show 5 < 1000; decide), ?_⟩
  rw [jf_page]
  have y1 := ts_ins (o := .ins (cJ K) dx (jf pg2 (pgn : Int) (C.term : Int) td2 (C.kept : Int))) (s3 _ _ m1)
  refine ⟨_, _, rfl, _, rfl, j, _, dx, _, rfl, upd_same, T.c_Journal, T.n_Journal_term, (by show 5 < 1000; decide), ?_⟩
  rw [jf_term]
  have y2 := y1.trans (ts_ins (o := .ins (cJ K) dx (jf pg2 (pgn : Int) (t : Int) td2 (C.kept : Int))) upd_same)
  refine ⟨_, _, rfl, _, rfl, j, _, dx, _, rfl, upd_same, T.c_Journal, T.n_Journal_told, (by show 5 < 1000; decide), ?_⟩
  rw [jf_told]
  have J4 := JAt.new (K := K) (j := j) (dx := dx) (S' := { C with page := pgn, term := t, rows := rows }) (td := v) (upd_same (a := j) (o := .ins (cJ K) dx (jf pg2 (pgn : Int) (t : Int) td2 (C.kept : Int)))) hpg1 (y2 _ _ (s3 _ _ m2)) (y2 _ _ (s3 _ _ m3)) (y2 _ _ (s3 _ _ m4)) (hv.up y2)
  have X4 : Sx (· = j) H _ := (((X2.trans (sx_same s3)).trans (sx_put (o := .ins (cJ K) dx (jf pg2 (pgn : Int) (C.term : Int) td2 (C.kept : Int))))).trans (sx_put (o := .ins (cJ K) dx (jf pg2 (pgn : Int) (t : Int) td2 (C.kept : Int))))).trans (sx_put (o := .ins (cJ K) dx (jf pg2 (pgn : Int) (t : Int) v (C.kept : Int))))
  refine ⟨_, _, rfl, rfl, ?_⟩
  have hcur : ({ C with page := pgn, term := t, rows := rows } : Js).cur = ({ C with page := pgn } : Js).cur := rfl
  have J4' : JAt K j dx { C with page := pgn, term := t, rows := rows } (upd (upd (upd H3 j (.ins (cJ K) dx (jf pg2 (pgn : Int) (C.term : Int) td2 (C.kept : Int)))) j (.ins (cJ K) dx (jf pg2 (pgn : Int) (t : Int) td2 (C.kept : Int)))) j (.ins (cJ K) dx (jf pg2 (pgn : Int) (t : Int) v (C.kept : Int)))) := J4
  generalize upd (upd (upd H3 j (.ins (cJ K) dx (jf pg2 (pgn : Int) (C.term : Int) td2 (C.kept : Int)))) j (.ins (cJ K) dx (jf pg2 (pgn : Int) (t : Int) td2 (C.kept : Int)))) j (.ins (cJ K) dx (jf pg2 (pgn : Int) (t : Int) v (C.kept : Int))) = H4 at J4' X4 ⊢
  obtain ⟨hp4, pg4, q04, q14, td4, n1, n2, n3, n4, n5⟩ := id J4'
  obtain ⟨q4, hat4, hq4⟩ := cur_at (S := { C with page := pgn, term := t, rows := rows }) hp4 n3 n4
  refine ⟨_, rfl, j, dx, _, rfl, n1, jn_written _ _ _ _ _, _, rfl, j, _, dx, _, _, rfl, n1, T.c_Journal, T.n_Journal_pages, jl_pages _ _ _ _ _, _, rfl, j, _, dx, _, _, rfl, n1, T.c_Journal, T.n_Journal_page, jl_page _ _ _ _ _, pg4, _, _, _, rfl, rfl, SqT.of n2, hat4, ?_⟩
  dsimp only [tNoPart]
  refine ⟨_, rfl, _, rfl, ?_⟩
  refine sl_of hq4 fun p5 H5 s5 h5 => ?_
  rw [hcur, show cutV (nts ({ C with page := pgn } : Js).cur) none (some ((b : Nat) : Int)) = nts (({ C with page := pgn } : Js).cur.take b) by rw [cutV_to (by rw [nts_len]; exact hbl), nts, nts, List.map_take]] at h5
  refine ⟨j, p5, dx, _, _, rfl, h5, J4'.up s5, fun H6 x6 J6 => ?_⟩
  obtain ⟨hp6, pg6, q06, q16, td6, f1, f2, f3, f4, f5⟩ := id J6
  refine ⟨_, rfl, _, rfl, j, _, dx, _, rfl, f1, T.c_Journal, T.n_Journal_kept, (by show 5 < 1000; decide), ?_⟩
  rw [jf_kept]
  exact k _ (((X4.trans (sx_same s5)).trans x6).trans sx_put) (JAt.new (K := K) (S' := C.goto pgn t rows b) f1 hp6 f2 f3 f4 f5)
end
end K53

set_option Elab.async false
set_option linter.all false
set_option maxRecDepth 100000
set_option maxHeartbeats 4000000
/-! a journal opened, its rows' ends, its cuts -/
namespace K53
open PySem PySem.Spec PyProof.Rows L2
/-- tuple(xs) of a list or a tuple -/
def rTof : List V → Hp → VK → Prop := fun xs H Q => ∃ a ys, xs = [.ref a] ∧ Sq H a ys ∧ RT ys H Q
theorem call_tof {X : Cx} : CallR X (.type "tuple") rTof := by
  intro pins s σ H xs us Q I r h
  obtain ⟨a, ys, e, hs, k⟩ := h
  refine call_tuple_of pins s σ H xs us Q I r ⟨a, ys, e, ?_⟩
  rcases hs with h | h
  · exact .inl ⟨SqL.of h, fun l hl => k l _ (same_upd hl) upd_same⟩
  · exact .inr ⟨SqT.of h, k a H (Same.refl H) h⟩
section
variable {P : Program} {w : World} {K : PySem.W.Frag} {mg : Str → Option Value} {base : Heap}
theorem ok_open_journal (T : Tx P K mg) : HasK P w K mg base CX0 16 (He.ga K "open_journal") p_open_journal (spOpen K) ["pages"] gF gFV := by
  obtain ⟨_, G_Journal_init, b_Journal_init⟩ := ok_Journal_init (w := w) (base := base) T
  obtain ⟨_, G_Journal_written, b_Journal_written⟩ := ok_Journal_written (w := w) (base := base) T
  obtain ⟨_, G_plain_journal, b_plain_journal⟩ := ok_plain_journal (w := w) (base := base) T
  obtain ⟨fd, F, b⟩ := T.d_open_journal
  refine ⟨fd, F.ok sc_open_journal (fun vs H Q E ⟨a, q0, q1, os0, os1, r0, r1, pg, t, rows, b, e, _⟩ => by rw [e]; rfl) (fun cdv A outer s H vs Q E hr h => ?_), b, kbF F fun _ _ _ _ _ _ _  => rfl⟩
  obtain ⟨a, q0, q1, os0, os1, r0, r1, pgn, t, rows, b, rfl, ha, hq0, hq1, P0, P1, hb, hpg1, hbl, k⟩ := h
  refine ⟨_, PSs.nox (pss_cons (ps_set (i := 1) sc_open_journal.nd rfl (Or.inl rfl) (pe_make0 T.k_Journal G_Journal_init (hr.mono (by decide)) rfl T.g_Journal b_Journal_init .nil pass0))
      (pss_cons (ps_asg (pe_call G_plain_journal (hr.mono (by decide)) rfl T.g_plain_journal T.kp_plain_journal b_plain_journal .nil pass0 (pa_cons (pv 0) pa_nil)) (pg_tup rfl (pgs_cons (pg_fld (pv 1)) (pgs_cons (pg_fld (pv 1)) (pgs_cons (pg_fld (pv 1)) (pgs_cons (pg_name (i := 2) sc_open_journal.nd rfl (Or.inl rfl)) pgs_nil))))))
      (pss_cons (ps_fld (pv 1) (pe_tup (pa_cons (pe_callTy call_tof rfl T.f_tuple boot_tuple (pa_cons (pe_ix ix_list (pv 0) pe_int (fun _ _ => rfl)) pa_nil)) (pa_cons (pe_callTy call_tof rfl T.f_tuple boot_tuple (pa_cons (pe_ix ix_list (pv 0) pe_int (fun _ _ => rfl)) pa_nil)) pa_nil))) rfl)
      (pss_cons (ps_expr (pe_meth (pv 1) T.c_Journal T.m_Journal_written G_Journal_written (hr.mono (by decide)) b_Journal_written .nil pass0 (pa_cons (pe_slice sl_tupA (pe_ix ix_tup (pe_fld (pv 1) rfl) (pe_fld (pv 1) rfl) (fun _ _ => rfl)) po_none (po_some (pv 2))) pa_nil)))
      (pss_cons (ps_fld (pv 1) (pv 2) rfl)
      (pss_one (ps_ret (pv 1)))))))), ?_⟩
  intro j dx hj hdx hne
  have sj : Same H (upd (upd H dx (.own j)) j (.ins (cJ K) dx [])) := (same_upd hdx).trans (same_upd (by rw [upd_ne hne.symm]; exact hj))
  refine ⟨j, dx, rfl, upd_same, fun H2 x2 J2 => ⟨rfl, ?_⟩⟩
  have s2 : Same H H2 := same_ex sj hj x2
  obtain ⟨hp2, pg2, q02, q12, td2, m1, m2, m3, m4, m5⟩ := id J2
  refine ⟨_, rfl, a, q0, q1, os0, os1, r0, r1, pgn, t, rows, b, rfl, .inl (s2 _ _ ha), hq0.up s2, hq1.up s2, P0, P1, hb, fun p v H3 s3 hv h3 => ?_⟩
  dsimp only at m1
  generalize (pageO 0 0 []).length = kp0 at m1
  refine ⟨p, _, rfl, SqT.of h3, rfl, _, _, rfl, _, rfl, j, _, dx, _, rfl, s3 _ _ m1, T.c_Journal, T.n_Journal_page, (by show 5 < 1000; decide), ?_⟩
  rw [jf_page]
  refine ⟨_, _, rfl, _, rfl, j, _, dx, _, rfl, upd_same, T.c_Journal, T.n_Journal_term, (by show 5 < 1000; decide), ?_⟩
  rw [jf_term]
  refine ⟨_, _, rfl, _, rfl, j, _, dx, _, rfl, upd_same, T.c_Journal, T.n_Journal_told, (by show 5 < 1000; decide), ?_⟩
  rw [jf_told]
  refine ⟨_, _, rfl, rfl, ?_⟩
  have X4 : Sx (· = j) H2 (upd (upd (upd H3 j (.ins (cJ K) dx (jf pg2 (pgn : Int) ((0 : Nat) : Int) td2 (kp0 : Int)))) j (.ins (cJ K) dx (jf pg2 (pgn : Int) (t : Int) td2 (kp0 : Int)))) j (.ins (cJ K) dx (jf pg2 (pgn : Int) (t : Int) v (kp0 : Int)))) := (((sx_same s3).trans sx_put).trans sx_put).trans sx_put
  have h4j : upd (upd (upd H3 j (.ins (cJ K) dx (jf pg2 (pgn : Int) ((0 : Nat) : Int) td2 (kp0 : Int)))) j (.ins (cJ K) dx (jf pg2 (pgn : Int) (t : Int) td2 (kp0 : Int)))) j (.ins (cJ K) dx (jf pg2 (pgn : Int) (t : Int) v (kp0 : Int))) j = some (.ins (cJ K) dx (jf pg2 (pgn : Int) (t : Int) v (kp0 : Int))) := upd_same
  have hv4 : Rp (upd (upd (upd H3 j (.ins (cJ K) dx (jf pg2 (pgn : Int) ((0 : Nat) : Int) td2 (kp0 : Int)))) j (.ins (cJ K) dx (jf pg2 (pgn : Int) (t : Int) td2 (kp0 : Int)))) j (.ins (cJ K) dx (jf pg2 (pgn : Int) (t : Int) v (kp0 : Int)))) v (.tuple rows) :=
    hv.up (((ts_ins (s3 _ _ m1)).trans (ts_ins upd_same)).trans (ts_ins upd_same))
  generalize upd (upd (upd H3 j (.ins (cJ K) dx (jf pg2 (pgn : Int) ((0 : Nat) : Int) td2 (kp0 : Int)))) j (.ins (cJ K) dx (jf pg2 (pgn : Int) (t : Int) td2 (kp0 : Int)))) j (.ins (cJ K) dx (jf pg2 (pgn : Int) (t : Int) v (kp0 : Int))) = H4 at X4 h4j hv4 ⊢
  have s4 : Same H H4 := same_ex s2 hj X4
  refine ⟨_, rfl, a, _, 0, _, rfl, rfl, SqL.of (s4 _ _ ha), rfl, q0, nts os0, rfl, hq0.up s4, fun p5 H5 s5 h5 => ?_⟩
  have s45 := s4.trans s5
  refine ⟨_, rfl, a, _, 1, _, rfl, rfl, SqL.of (s45 _ _ ha), rfl, q1, nts os1, rfl, hq1.up s45, fun p6 H6 s6 h6 => ?_⟩
  refine ⟨sz2, fun t6 ht6 => ?_⟩
  have s7 := same_upd ht6 (o := .tup [.ref p5, .ref p6])
  have s47 := (s5.trans s6).trans s7
  refine ⟨_, rfl, j, _, dx, _, rfl, s47 _ _ h4j, T.c_Journal, T.n_Journal_pages, (by show 5 < 1000; decide), ?_⟩
  rw [jf_pages]
  generalize eS5 : ({ p0 := os0, p1 := os1, page := pgn, term := t, rows := rows, kept := kp0 } : Js) = S5
  have J5 : JAt K j dx S5 (upd (upd H6 t6 (.tup [.ref p5, .ref p6])) j (.ins (cJ K) dx (jf t6 (pgn : Int) (t : Int) v (kp0 : Int)))) := by
    rw [← eS5]
    exact JAt.new (K := K) (S' := { p0 := os0, p1 := os1, page := pgn, term := t, rows := rows, kept := kp0 }) (s47 _ _ h4j) hpg1 upd_same (s7 _ _ (s6 _ _ h5)) (s7 _ _ h6) (hv4.up (same_ts s47))
  have X5 : Sx (· = j) H4 (upd (upd H6 t6 (.tup [.ref p5, .ref p6])) j (.ins (cJ K) dx (jf t6 (pgn : Int) (t : Int) v (kp0 : Int)))) := (sx_same s47).trans sx_put
  generalize upd (upd H6 t6 (.tup [.ref p5, .ref p6])) j (.ins (cJ K) dx (jf t6 (pgn : Int) (t : Int) v (kp0 : Int))) = H7 at J5 X5 ⊢
  obtain ⟨hp7, pg7, q07, q17, td7, n1, n2, n3, n4, n5⟩ := id J5
  obtain ⟨q7, hat7, hq7⟩ := cur_at hp7 n3 n4
  refine ⟨_, rfl, j, dx, _, rfl, n1, jn_written _ _ _ _ _, _, rfl, j, _, dx, _, _, rfl, n1, T.c_Journal, T.n_Journal_pages, jl_pages _ _ _ _ _, _, rfl, j, _, dx, _, _, rfl, n1, T.c_Journal, T.n_Journal_page, jl_page _ _ _ _ _, pg7, _, _, _, rfl, rfl, SqT.of n2, hat7, ?_⟩
  dsimp only [tNoPart]
  refine ⟨_, rfl, _, rfl, ?_⟩
  refine sl_of hq7 fun p8 H8 s8 h8 => ?_
  have hcur : S5.cur = if pgn = 0 then os0 else os1 := by rw [← eS5]; rfl
  rw [show cutV (nts S5.cur) none (some ((b : Nat) : Int)) = nts (S5.cur.take b) by rw [cutV_to (by rw [nts_len, hcur]; exact hbl), nts, nts, List.map_take]] at h8
  refine ⟨j, p8, dx, _, S5, rfl, h8, J5.up s8, fun H9 x9 J9 => ?_⟩
  obtain ⟨hp9, pg9, q09, q19, td9, f1, f2, f3, f4, f5⟩ := id J9
  refine ⟨_, rfl, _, rfl, j, _, dx, _, rfl, f1, T.c_Journal, T.n_Journal_kept, (by show 5 < 1000; decide), ?_⟩
  rw [jf_kept]
  refine ⟨_, rfl, ?_⟩
  have eG : (⟨os0, os1, 0, 0, [], 0⟩ : Js).goto pgn t rows b = { S5.put (S5.cur.take b) with kept := b } := by
    rw [← eS5]
    unfold Js.goto Js.put Js.cur
    dsimp only
    split <;> rfl
  refine k j dx _ (same_ex s4 hj ((X5.trans (sx_same s8)).trans (x9.trans sx_put))) hj ?_
  rw [eG]
  exact JAt.new (K := K) (S' := { S5.put (S5.cur.take b) with kept := b }) f1 hp9 f2 f3 f4 f5
end
end K53

set_option Elab.async false
set_option linter.all false
set_option maxRecDepth 100000
set_option maxHeartbeats 4000000
/-! the rows' ends, the cuts -/
namespace K53
open PySem PySem.Spec PyProof.Rows L2
theorem strOk_sg {x : Str} (h : ∀ c ∈ x.cps.toList, sg.contains c = true) : PyData.strOk x = true := by
  have h256 : ∀ c ∈ sg, c < 256 := by decide +kernel
  show x.cps.all (fun c => decide (c < 0x110000)) = true
  rw [Array.all_eq_true_iff_forall_mem]
  intro c hc
  have h1 := h c (by simpa using hc)
  have h2 := h256 c (by simpa using h1)
  exact decide_eq_true (by omega)
mutual
theorem okD_can : ∀ (d : PyData) (n : Nat), okD d n = true → d.canLay0 = true ∧ d.depth ≤ n
  | .none, _, _ => ⟨rfl, Nat.zero_le _⟩
  | .int _, _, _ => ⟨rfl, Nat.zero_le _⟩
  | .str x, n, h => by
    have h' : x.length ≤ 20 ∧ ∀ c ∈ x.cps.toList, sg.contains c = true := by
      simpa only [okD, Bool.and_eq_true, decide_eq_true_eq, List.all_eq_true] using h
    exact ⟨strOk_sg h'.2, Nat.zero_le _⟩
  | .tuple _, 0, h => by simp [okD] at h
  | .tuple l, n + 1, h => by
    have h' : l.length ≤ 20 ∧ okAll l n = true := by simpa [okD] using h
    obtain ⟨a, b⟩ := okAll_can l n h'.2
    exact ⟨a, Nat.succ_le_succ b⟩
  | .bool _, _, h => by simp [okD] at h
  | .list _, _, h => by simp [okD] at h
  | .dict _, _, h => by simp [okD] at h
theorem okAll_can : ∀ (l : List PyData) (n : Nat), okAll l n = true → PyData.canLayAll0 l = true ∧ PyData.depthAll l ≤ n
  | [], _, _ => ⟨rfl, Nat.zero_le _⟩
  | d :: l, n, h => by
    have h' : okD d n = true ∧ okAll l n = true := by simpa [okAll] using h
    obtain ⟨a, b⟩ := okD_can d n h'.1
    obtain ⟨c, e⟩ := okAll_can l n h'.2
    exact ⟨by show (PyData.canLay0 d && PyData.canLayAll0 l) = true; rw [a, c]; rfl, Nat.max_le.mpr ⟨b, e⟩⟩
end
theorem rowAll_ok : ∀ {W : List PyData}, (∀ d ∈ W, rowD d) → okAll W 3 = true
  | [], _ => by simp [okAll]
  | d :: W, h => by
    obtain ⟨x, ds, e, hd⟩ := h d List.mem_cons_self
    have := rowAll_ok (W := W) fun d hd => h d (List.mem_cons_of_mem _ hd)
    simp [okAll, this, e, hd]
theorem rows_shaped {W : List PyData} (h : ∀ d ∈ W, rowD d) : SeqAt.shaped (.tuple W) = true := by
  obtain ⟨a, b⟩ := okAll_can W 3 (rowAll_ok h)
  show (PyData.canLayAll0 W && decide (PyData.depthAll W + 1 ≤ 64)) = true
  rw [a, decide_eq_true (by omega)]
  rfl
theorem rows_refl {W : List PyData} (h : ∀ d ∈ W, rowD d) : PyData.eqv (.tuple W) (.tuple W) = true := SeqAt.eqv_refl _ (okAll_can W 3 (rowAll_ok h)).1
def endsF (W : List PyData) : List Nat := (List.range W.length).map fun i => (formAll (W.take (i + 1))).length
/-- a list without what is as its last -/
def ded (acc : List PyData) (d : PyData) : List PyData := match acc.getLast? with
  | none => [d]
  | some x => if PyData.eqv x d = true then acc else acc ++ [d]
def cutsF (kept : Nat) (g : Nat → List PyData) (l : List Nat) : List PyData := l.foldl (fun acc left => if kept ≤ left then ded acc (.tuple (g left)) else acc) []
def spEnds : Sp := fun vs H Q _ => ∃ (q : Addr) (W : List PyData), vs = [.ref q] ∧ H q = some (.tup (nts (formAll W))) ∧ (∀ d ∈ W, rowD d) ∧ W.length ≤ 1000 ∧ ∀ p H', Same H H' → H' p = some (.lst (nts (endsF W))) → Q (.ref p) H'
def spCuts (K : PySem.W.Frag) : Sp := fun vs H Q _ => ∃ (j dx : Addr) (S : Js) (W : List PyData) (g : Nat → List PyData), vs = [.ref j] ∧ JAt K j dx S H ∧ S.cur = formAll W ∧ (∀ d ∈ W, rowD d) ∧ W.length ≤ 1000 ∧ S.kept ≤ S.cur.length ∧
  (∀ left, S.kept ≤ left → left ≤ S.cur.length → ∃ r0 r1 pg t b, PageOk (S.put (S.cur.take left)).p0 r0 ∧ PageOk (S.put (S.cur.take left)).p1 r1 ∧ best r0 r1 = some (pg, t, g left, b) ∧ ∀ d ∈ g left, rowD d) ∧
  ∀ p xs H', Same H H' → H' p = some (.tup xs) → RpAll H' xs (cutsF S.kept g (S.kept :: endsF W)) → Q (.ref p) H'
theorem cutsF_snoc {kept : Nat} {g : Nat → List PyData} {l : List Nat} {x : Nat} : cutsF kept g (l ++ [x]) = if kept ≤ x then ded (cutsF kept g l) (.tuple (g x)) else cutsF kept g l := by
  unfold cutsF
  rw [List.foldl_append]
  rfl
theorem endsF_le {W : List PyData} {x : Nat} (h : x ∈ endsF W) : x ≤ (formAll W).length := by
  unfold endsF at h
  obtain ⟨i, _, rfl⟩ := List.mem_map.mp h
  have := congrArg List.length (show formAll W = formAll (W.take (i + 1)) ++ formAll (W.drop (i + 1)) by rw [← formAll_append, List.take_append_drop])
  rw [List.length_append] at this
  omega
theorem ded_rows {acc : List PyData} {d : PyData} {x : PyData} (h : x ∈ ded acc d) : x ∈ acc ∨ x = d := by
  unfold ded at h
  split at h
  · exact .inr (List.mem_singleton.mp h)
  · split at h
    · exact .inl h
    · rcases List.mem_append.mp h with e | e
      · exact .inl e
      · exact .inr (List.mem_singleton.mp e)
theorem ded_len {acc : List PyData} {d : PyData} : (ded acc d).length ≤ acc.length + 1 := by
  unfold ded
  split
  · simp
  · split <;> simp
theorem mem_cuts_at {kept : Nat} {g : Nat → List PyData} {z : PyData} : ∀ {l : List Nat} {acc : List PyData}, z ∈ l.foldl (fun acc left => if kept ≤ left then ded acc (.tuple (g left)) else acc) acc → z ∈ acc ∨ ∃ x ∈ l, kept ≤ x ∧ z = .tuple (g x)
  | [], _, h => .inl h
  | y :: l, acc, h => by
    rcases mem_cuts_at (l := l) h with h | ⟨x, hx, h1, h2⟩
    · dsimp only at h
      split at h
      · rename_i hk
        rcases ded_rows h with h | h
        · exact .inl h
        · exact .inr ⟨y, List.mem_cons_self, hk, h⟩
      · exact .inl h
    · exact .inr ⟨x, List.mem_cons_of_mem _ hx, h1, h2⟩
theorem mem_cuts {kept : Nat} {g : Nat → List PyData} {z : PyData} {l : List Nat} (h : z ∈ cutsF kept g l) : ∃ x ∈ l, kept ≤ x ∧ z = .tuple (g x) := by
  rcases mem_cuts_at h with h | h
  · cases h
  · exact h
theorem RpAll.snoc {H : Hp} : ∀ {A : List PyData} {xs : List V} {z : PyData}, RpAll H xs (A ++ [z]) → ∃ xs' v, xs = xs' ++ [v] ∧ RpAll H xs' A ∧ Rp H v z
  | [], _, _, h => by
    cases h with
    | cons h1 h2 =>
      cases h2
      exact ⟨[], _, rfl, .nil, h1⟩
  | d :: A, _, z, h => by
    cases h with
    | cons h1 h2 =>
      obtain ⟨xs', v, rfl, h3, h4⟩ := RpAll.snoc (A := A) h2
      exact ⟨_ :: xs', v, rfl, .cons h1 h3, h4⟩
theorem cuts_len_at {kept : Nat} {g : Nat → List PyData} : ∀ {l : List Nat} {acc : List PyData}, (l.foldl (fun acc left => if kept ≤ left then ded acc (.tuple (g left)) else acc) acc).length ≤ acc.length + l.length
  | [], _ => Nat.le_refl _
  | y :: l, acc => by
    have h1 := cuts_len_at (kept := kept) (g := g) (l := l) (acc := if kept ≤ y then ded acc (.tuple (g y)) else acc)
    have h2 : (if kept ≤ y then ded acc (.tuple (g y)) else acc).length ≤ acc.length + 1 := by
      split
      · exact ded_len
      · omega
    rw [List.foldl_cons, List.length_cons]
    omega
section
variable {P : Program} {w : World} {K : PySem.W.Frag} {mg : Str → Option Value} {base : Heap}
theorem ok_row_ends (T : Tx P K mg) : Has P w K mg base CX0 14 (He.ga K "row_ends") p_row_ends spEnds := by
  obtain ⟨_, G_read_row, b_read_row⟩ := ok_read_row (w := w) (base := base) T
  obtain ⟨fd, F, b⟩ := T.d_row_ends
  refine ⟨fd, F.ok sc_row_ends (fun vs H Q E ⟨q, W, e, _⟩ => by rw [e]; rfl) (fun cdv A outer s H vs Q E hr h => ?_), b⟩
  obtain ⟨q, W, rfl, hq, hW, hWl, k⟩ := h
  refine ⟨_, PSs.nox (pss_cons (ps_par (i := 1) (j := 2) rfl sc_row_ends.nd rfl rfl (by decide) rfl rfl (pa_cons (pe_lst pa_nil) (pa_cons pe_int pa_nil)) rfl)
      (pss_cons (ps_while PassesOwn.never (pt_cmpR op_lt (pv 2) (pe_callB call_len_seq rfl T.f_len boot_len (pa_cons (pv 0) pa_nil)) (nomark _)) (pss_cons (ps_set (i := 2) sc_row_ends.nd rfl (Or.inl rfl) (pe_ix ix_tup (pe_call G_read_row (hr.mono (by decide)) rfl T.g_read_row T.kp_read_row b_read_row .nil pass0 (pa_cons (pv 0) (pa_cons (pv 2) pa_nil))) pe_int (fun _ _ => rfl)))
      (pss_one (ps_expr (pe_bm PySem.F.plainAttrs_list PySem.F.slot_list_append PySem.F.type_list_append mt_append (pv 1) (pa_cons (pv 2) pa_nil))))))
      (pss_one (ps_ret (pv 1))))), ?_⟩
  refine ⟨Nat.zero_le _, fun L hL => ⟨_, _, rfl, ?_⟩⟩
  refine ⟨fun m σ' H' => ∃ j, m = W.length - j ∧ j ≤ W.length ∧ σ' = [some (.ref q), some (.ref L), some (.int ((formAll (W.take j)).length : Int))] ∧ Same H H' ∧ H' L = some (.lst (nts ((List.range j).map fun i => (formAll (W.take (i + 1))).length))),
    ⟨W.length, 0, rfl, Nat.zero_le _, rfl, same_upd hL, upd_same⟩, ?_⟩
  rintro m σ' H' ⟨j, rfl, hj, rfl, s2, h2⟩
  refine ⟨_, rfl, _, rfl, q, _, rfl, .inr (SqT.of (s2 _ _ hq)), _, _, rfl, rfl, _, rfl, ?_⟩
  rw [nts_len]
  have hcut : formAll W = formAll (W.take j) ++ formAll (W.drop j) := by rw [← formAll_append, List.take_append_drop]
  have hlen := congrArg List.length hcut
  rw [List.length_append] at hlen
  by_cases hjl : j < W.length
  · have hpos := rowD_pos (hW _ (List.getElem_mem hjl))
    have hdr := drop_getA hjl
    have hlen2 : (formAll (W.drop j)).length = (form W[j]).length + (formAll (W.drop (j + 1))).length := by rw [hdr, formAll_cons, List.length_append]
    rw [decide_eq_true (by omega)]
    refine iteT ⟨_, fun σ2 H2 h => h, ?_⟩
    have tkj : formAll (W.take (j + 1)) = formAll (W.take j) ++ form W[j] := by rw [take_snoc (List.getElem?_eq_getElem hjl), formAll_snoc]
    refine ⟨_, rfl, _, rfl, q, formAll W, _, W[j], formAll (W.drop (j + 1)), rfl, .inr (s2 _ _ hq), rowAll_lt hW, by omega, hW _ (List.getElem_mem hjl), ?_, fun t v H3 s3 hv h3 => ?_⟩
    · rw [hcut, List.drop_left, hdr, formAll_cons]
    · refine ⟨t, _, 1, _, rfl, rfl, SqT.of h3, rfl, ?_⟩
      have h23 := s3 _ _ h2
      have hll : ((List.range j).map fun i => (formAll (W.take (i + 1))).length).length = j := by simp
      refine ⟨_, rfl, .inl ⟨rfl, _, SqL.of h23⟩, _, rfl, L, _, _, rfl, rfl, h23, ?_, ?_⟩
      · rw [nts_len, hll]
        exact Nat.lt_of_lt_of_le (show j < 16777216 by omega) (sz16 (Nat.le_refl _))
      · have e1 : (formAll (W.take j)).length + (form W[j]).length = (formAll (W.take (j + 1))).length := by rw [tkj, List.length_append]
        rw [e1]
        refine ⟨W.length - (j + 1), by omega, j + 1, rfl, hjl, rfl, fun b o hb => ?_, ?_⟩
        · rw [upd_ne (ne_of_none hb hL)]
          exact s3 _ _ (s2 _ _ hb)
        · rw [upd_same, List.range_succ, List.map_append, nts_append]
          rfl
  · have hj2 : j = W.length := by omega
    subst hj2
    rw [List.take_of_length_le (Nat.le_refl _), decide_eq_false (by omega)]
    exact iteF ⟨_, rfl, k L H' s2 h2⟩
theorem ok_journal_cuts (T : Tx P K mg) : Has P w K mg base CX0 16 (He.ga K "journal_cuts") p_journal_cuts (spCuts K) := by
  obtain ⟨_, G_row_ends, b_row_ends⟩ := ok_row_ends (w := w) (base := base) T
  obtain ⟨_, G_plain_journal, b_plain_journal⟩ := ok_plain_journal (w := w) (base := base) T
  obtain ⟨fd, F, b⟩ := T.d_journal_cuts
  refine ⟨fd, F.ok sc_journal_cuts (fun vs H Q E ⟨j, dx, S, W, g, e, _⟩ => by rw [e]; rfl) (fun cdv A outer s H vs Q E hr h => ?_), b⟩
  obtain ⟨j, dx, S, W, g, rfl, hJ, hc, hW, hWl, hkl, hG, k⟩ := h
  obtain ⟨hp, pg, q0, q1, td, g1, g2, g3, g4, g5⟩ := id hJ
  obtain ⟨q, hat, hq⟩ := cur_at hp g3 g4
  have hq' : Room 15 _ := hr
  have hq := hq
  have hqu : (A.deeper (envOfC "journal_cuts" (defScope s_journal_cuts) s.heap.objs.size (He.ga K "journal_cuts") cdv)).units + 64 < cLine := by
    have := hr.un
    omega
  refine ⟨_, PSs.nox (pss_cons (ps_par (i := 1) (j := 2) rfl sc_journal_cuts.nd rfl rfl (by decide) rfl rfl (pa_cons (pe_ix ix_tup (pe_fld (pv 0) rfl) (pe_fld (pv 0) rfl) (fun _ _ => rfl)) (pa_cons (pe_lst pa_nil) pa_nil)) rfl)
      (pss_cons (ps_for PassesOwn.never rfl (pi_list (pe_op op_cat (pe_lst (pa_cons (pe_fld (pv 0) rfl) pa_nil)) (pe_call G_row_ends (hr.mono (by decide)) rfl T.g_row_ends T.kp_row_ends b_row_ends .nil pass0 (pa_cons (pv 1) pa_nil)))) (pg_name (i := 3) sc_journal_cuts.nd rfl (Or.inl rfl)) (pss_one (ps_if (pt_cmpR op_ge (pv 3) (pe_fld (pv 0) rfl) (nomark _)) (pss_cons (ps_set (i := 4) sc_journal_cuts.nd rfl (Or.inl rfl) (pe_slice sl_tupA (pv 1) po_none (po_some (pv 3))))
      (pss_cons (ps_set (i := 5) sc_journal_cuts.nd rfl (Or.inl rfl) (pe_ix ix_tup (pe_call G_plain_journal (hr.mono (by decide)) rfl T.g_plain_journal T.kp_plain_journal b_plain_journal .nil pass0 (pa_cons (pe_ifExp (pt_cmpR op_eq (pe_fld (pv 0) rfl) pe_int (nomark _)) (pe_tup (pa_cons (pv 4) (pa_cons (pe_ix ix_tup (pe_fld (pv 0) rfl) pe_int (fun _ _ => rfl)) pa_nil))) (pe_tup (pa_cons (pe_ix ix_tup (pe_fld (pv 0) rfl) pe_int (fun _ _ => rfl)) (pa_cons (pv 4) pa_nil)))) pa_nil)) pe_int (fun _ _ => rfl)))
      (pss_one (ps_set (i := 2) sc_journal_cuts.nd rfl (Or.inl rfl) (pe_op op_cat (pv 2) (pe_ifExp (PW.pt (pw_or (pt_cmpR op_eq (pe_callB call_len_seq rfl T.f_len boot_len (pa_cons (pv 2) pa_nil)) pe_int (nomark _)) (pw_or1 (pt_cmpR (op_neD hqu) (pe_ix ix_list (pv 2) (pe_un un_neg pe_int) (fun _ _ => rfl)) (pv 5) (nomark _))))) (pe_lst (pa_cons (pv 5) pa_nil)) (pe_lst pa_nil))))))) pss_nil)))
      (pss_one (ps_ret (pe_callTy call_tuple_of rfl T.f_tuple boot_tuple (pa_cons (pv 2) pa_nil)))))), ?_⟩
  refine ⟨_, rfl, j, _, dx, _, _, rfl, g1, T.c_Journal, T.n_Journal_pages, jl_pages _ _ _ _ _, _, rfl, j, _, dx, _, _, rfl, g1, T.c_Journal, T.n_Journal_page, jl_page _ _ _ _ _, pg, _, _, _, rfl, rfl, SqT.of g2, hat, ?_⟩
  refine ⟨Nat.zero_le _, fun f hf => ⟨_, _, rfl, ?_⟩⟩
  have s1 := same_upd hf (o := .lst [])
  refine ⟨_, rfl, j, _, dx, _, _, rfl, s1 _ _ g1, T.c_Journal, T.n_Journal_kept, jl_kept _ _ _ _ _, sz1, fun l1 hl1 => ⟨_, rfl, q, W, rfl, ?_, hW, hWl, fun l2 H2 s2 h2 => ?_⟩⟩
  · rw [← hc]; exact same_upd hl1 _ _ (s1 _ _ hq)
  have hel : (endsF W).length = W.length := by simp [endsF]
  refine ⟨l1, l2, _, _, rfl, rfl, s2 _ _ upd_same, h2, by rw [nts_len, hel]; exact sz16 (by show 1 + W.length ≤ 16777216; omega), fun L hL => ⟨L, rfl, ⟨_, SqL.of upd_same⟩, ?_⟩⟩
  have s3 : Same H (upd H2 L (.lst ([.int (S.kept : Int)] ++ nts (endsF W)))) := ((s1.trans (same_upd hl1)).trans s2).trans (same_upd hL)
  have hf3 : upd H2 L (.lst ([.int (S.kept : Int)] ++ nts (endsF W))) f = some (.lst []) := same_upd hL _ _ (s2 _ _ (same_upd hl1 _ _ upd_same))
  have eL : [V.int (S.kept : Int)] ++ nts (endsF W) = nts (S.kept :: endsF W) := rfl
  rw [eL] at s3 hf3 ⊢
  have hL3 : upd H2 L (.lst (nts (S.kept :: endsF W))) L = some (.lst (nts (S.kept :: endsF W))) := upd_same
  generalize upd H2 L (.lst (nts (S.kept :: endsF W))) = H3 at s3 hf3 hL3 ⊢
  refine for_list (xs := nts (S.kept :: endsF W)) (fun i σ' H' => Same H3 H' ∧ ∃ f xs u v w', σ' = [some (.ref j), some (.ref q), some (.ref f), u, v, w'] ∧ H' f = some (.lst xs) ∧ RpAll H' xs (cutsF S.kept g ((S.kept :: endsF W).take i)))
    ⟨Same.refl _, f, [], none, none, none, rfl, hf3, .nil⟩ (fun i σ' H' _ h => SqL.of (h.1 _ _ hL3)) ?_ ?_
  · rintro i x σ' H' hi ⟨s4, f, xs, u, v, w', rfl, h4, r4⟩
    obtain ⟨left, rfl, hleft⟩ := nts_mem hi
    have s34 := s3.trans s4
    have hlm : left ∈ S.kept :: endsF W := List.mem_of_getElem? hleft
    have hle : left ≤ S.cur.length := by
      rcases List.mem_cons.mp hlm with e | e
      · omega
      · rw [hc]; exact endsF_le e
    have hstep : cutsF S.kept g ((S.kept :: endsF W).take (i + 1)) = if S.kept ≤ left then ded (cutsF S.kept g ((S.kept :: endsF W).take i)) (.tuple (g left)) else cutsF S.kept g ((S.kept :: endsF W).take i) := by rw [take_snoc hleft, cutsF_snoc]
    refine ⟨_, rfl, _, rfl, j, _, dx, _, _, rfl, s34 _ _ g1, T.c_Journal, T.n_Journal_kept, jl_kept _ _ _ _ _, _, _, rfl, rfl, _, rfl, ?_⟩
    by_cases hk : S.kept ≤ left
    · rw [decide_eq_true (by omega)]
      rw [if_pos hk] at hstep
      obtain ⟨r0, r1, pgx, tx, bx, P0, P1, hb, hgr⟩ := hG left hk hle
      refine iteT ⟨_, rfl, ?_⟩
      dsimp only [tNoPart]
      refine ⟨_, rfl, _, rfl, ?_⟩
      refine sl_of (s34 _ _ hq) fun pc H5 s5 h5 => ?_
      rw [show cutV (nts S.cur) none (some ((left : Nat) : Int)) = nts (S.cur.take left) by rw [cutV_to (by rw [nts_len]; exact hle), nts, nts, List.map_take]] at h5
      have s05 := s34.trans s5
      have s35 := s4.trans s5
      -- what is done with the rows
      have fin : ∀ (pr v : V) (H7 : Hp), Same H3 H7 → Rp H7 v (.tuple (g left)) → H7 f = some (.lst xs) → RpAll H7 xs (cutsF S.kept g ((S.kept :: endsF W).take i)) → ∀ (D : Ends) (c : V), (∀ f' xs' H8, Same H3 H8 → H8 f' = some (.lst xs') → RpAll H8 xs' (cutsF S.kept g ((S.kept :: endsF W).take (i + 1))) → D.nx [some (.ref j), some (.ref q), some (.ref f'), some (.int (left : Int)), some c, some v] H8) →
          tAsg (tOp rCat (tVar 2) (tIf (tOr (tTest (tOp rEq (tCB (rLenK K) (tCons (tVar 2) tNil)) (tC (.int 0)))) (tTest (tOp (rNeD K) (tOp (rIxL K) (tVar 2) (tUn (rU fun i => .int (-i)) (tC (.int 1)))) (tVar 5)))) (tLst (tCons (tVar 5) tNil)) (tLst tNil))) (gName 2) D
            [some (.ref j), some (.ref q), some (.ref f), some (.int (left : Int)), some c, some v] H7 := by
        intro pr v H7 s7 hv h7f r7 D c kk
        rw [hstep] at kk
        have hxl : xs.length ≤ 1001 := by
          have h1 := r7.len
          have h2 := cuts_len_at (kept := S.kept) (g := g) (l := (S.kept :: endsF W).take i) (acc := [])
          have h3 : ((S.kept :: endsF W).take i).length ≤ 1001 := by rw [List.length_take, List.length_cons, hel]; omega
          unfold cutsF at h1
          rw [List.length_nil] at h2
          omega
        have add : ∀ (A : List PyData), RpAll H7 xs A → (∀ f' xs' H8, Same H3 H8 → H8 f' = some (.lst xs') → RpAll H8 xs' (A ++ [.tuple (g left)]) → D.nx [some (.ref j), some (.ref q), some (.ref f'), some (.int (left : Int)), some c, some v] H8) →
            tLst (tCons (tVar 5) tNil) [some (.ref j), some (.ref q), some (.ref f), some (.int (left : Int)), some c, some v] H7 (fun y H9 => rCat (.ref f) y H9 fun z H10 => gName 2 z [some (.ref j), some (.ref q), some (.ref f), some (.int (left : Int)), some c, some v] H10 D.nx) := by
          intro A rA kA
          refine ⟨_, rfl, sz1, fun l5 hl5 => ⟨f, l5, xs, [v], rfl, rfl, same_upd hl5 _ _ h7f, upd_same, sz16 (by simp; omega), fun p hp => ?_⟩⟩
          have s8 := (same_upd hl5 (o := .lst [v])).trans (same_upd hp (o := .lst (xs ++ [v])))
          exact kA p _ _ (s7.trans s8) upd_same ((rA.up (same_ts s8)).app (RpAll.one (hv.up (same_ts s8))))
        refine ⟨_, rfl, _, rfl, f, xs, rfl, .inl (SqL.of h7f), rfl, _, rfl, ?_⟩
        rcases List.eq_nil_or_concat (cutsF S.kept g ((S.kept :: endsF W).take i)) with eA | ⟨A', z, eA⟩
        · rw [eA] at r7 kk
          have e0 : xs = [] := by cases r7; rfl
          rw [e0]
          refine iteT (iteT ?_)
          subst e0
          exact add [] .nil kk
        · rw [List.concat_eq_append] at eA
          rw [eA] at r7 kk
          obtain ⟨xs', v', rfl, ra, rz⟩ := r7.snoc
          have hne : decide (V.int (((xs' ++ [v']).length : Nat) : Int) = V.int 0) = false := decide_eq_false (fun y => by have := V.int.inj y; simp at this; omega)
          rw [hne]
          obtain ⟨x, hxm, hxk, rfl⟩ := mem_cuts (kept := S.kept) (g := g) (l := (S.kept :: endsF W).take i) (z := z) (by rw [eA]; simp)
          have hx0 : x ∈ S.kept :: endsF W := List.mem_of_mem_take hxm
          have hxc : x ≤ S.cur.length := by
            rcases List.mem_cons.mp hx0 with e | e
            · omega
            · rw [hc]; exact endsF_le e
          obtain ⟨_, _, _, _, _, _, _, _, hgx⟩ := hG x hxk hxc
          refine iteF ⟨_, rfl, _, rfl, f, _, -1, v', rfl, rfl, SqL.of h7f, atI_last _ _, _, rfl, .tuple (g x), .tuple (g left), rz.dp _ _, hv.dp _ _, rows_shaped hgx, rows_shaped hgr, _, rfl, ?_⟩
          have ed : ded (A' ++ [.tuple (g x)]) (.tuple (g left)) = if PyData.eqv (.tuple (g x)) (.tuple (g left)) = true then A' ++ [.tuple (g x)] else A' ++ [.tuple (g x)] ++ [.tuple (g left)] := by
            unfold ded
            rw [List.getLast?_append]
            rfl
          rw [ed] at kk
          cases hev : PyData.eqv (.tuple (g x)) (.tuple (g left)) with
          | true =>
            rw [hev, if_pos rfl] at kk
            refine iteF ⟨Nat.zero_le _, fun l5 hl5 => ⟨f, l5, _, [], rfl, rfl, same_upd hl5 _ _ h7f, upd_same, sz16 (by simp at hxl ⊢; omega), fun p hp => ?_⟩⟩
            have s8 := (same_upd hl5 (o := .lst [])).trans (same_upd hp (o := .lst (xs' ++ [v'] ++ [])))
            exact kk p (xs' ++ [v']) _ (s7.trans s8) (by rw [upd_same, List.append_nil]) (r7.up (same_ts s8))
          | false =>
            rw [hev, if_neg Bool.false_ne_true] at kk
            exact iteT (add _ r7 kk)
      refine ⟨_, rfl, j, _, dx, _, _, rfl, s05 _ _ g1, T.c_Journal, T.n_Journal_page, jl_page _ _ _ _ _, rfl, _, rfl, ?_⟩
      have put0 : S.page = 0 → S.put (S.cur.take left) = { S with p0 := S.cur.take left } := fun z => by unfold Js.put; rw [if_pos z]
      have put1 : ¬ S.page = 0 → S.put (S.cur.take left) = { S with p1 := S.cur.take left } := fun z => by unfold Js.put; rw [if_neg z]
      by_cases z : S.page = 0
      · rw [decide_eq_true (by rw [z]; rfl)]
        refine iteT ⟨_, rfl, _, rfl, j, _, dx, _, _, rfl, s05 _ _ g1, T.c_Journal, T.n_Journal_pages, jl_pages _ _ _ _ _, pg, _, 1, _, rfl, rfl, SqT.of (s05 _ _ g2), rfl, sz2, fun t ht => ?_⟩
        have s6 := same_upd ht (o := .tup [.ref pc, .ref q1])
        refine ⟨t, pc, q1, _, _, r0, r1, pgx, tx, g left, bx, rfl, .inr upd_same, .inr (by rw [put0 z]; exact s6 _ _ h5), .inr (by rw [put0 z]; exact s6 _ _ (s05 _ _ g4)), P0, P1, hb, fun p v H7 s7 hv h7 => ?_⟩
        refine ⟨p, _, 2, _, rfl, rfl, SqT.of h7, rfl, ?_⟩
        have s37 := (s35.trans s6).trans s7
        exact fin (.ref p) v H7 s37 hv (s7 _ _ (s6 _ _ (s5 _ _ h4))) (((r4.up (same_ts s5)).up (same_ts s6)).up (same_ts s7)) _ _ fun f' xs' H8 t8 t9 t10 => ⟨t8, f', xs', _, _, _, rfl, t9, t10⟩
      · rw [decide_eq_false (fun y => by have := V.int.inj y; omega)]
        refine iteF ⟨_, rfl, j, _, dx, _, _, rfl, s05 _ _ g1, T.c_Journal, T.n_Journal_pages, jl_pages _ _ _ _ _, pg, _, 0, _, rfl, rfl, SqT.of (s05 _ _ g2), rfl, _, rfl, sz2, fun t ht => ?_⟩
        have s6 := same_upd ht (o := .tup [.ref q0, .ref pc])
        refine ⟨t, q0, pc, _, _, r0, r1, pgx, tx, g left, bx, rfl, .inr upd_same, .inr (by rw [put1 z]; exact s6 _ _ (s05 _ _ g3)), .inr (by rw [put1 z]; exact s6 _ _ h5), P0, P1, hb, fun p v H7 s7 hv h7 => ?_⟩
        refine ⟨p, _, 2, _, rfl, rfl, SqT.of h7, rfl, ?_⟩
        have s37 := (s35.trans s6).trans s7
        exact fin (.ref p) v H7 s37 hv (s7 _ _ (s6 _ _ (s5 _ _ h4))) (((r4.up (same_ts s5)).up (same_ts s6)).up (same_ts s7)) _ _ fun f' xs' H8 t8 t9 t10 => ⟨t8, f', xs', _, _, _, rfl, t9, t10⟩
    · rw [decide_eq_false (by omega)]
      rw [if_neg hk] at hstep
      exact iteF ⟨s4, f, xs, _, v, w', rfl, h4, by rw [hstep]; exact r4⟩
  · rintro σ' H' ⟨s4, f, xs, u, v, w', rfl, h4, r4⟩
    rw [nts_len, List.take_of_length_le (Nat.le_refl _)] at r4
    exact ⟨_, rfl, f, xs, rfl, .inl ⟨SqL.of h4, fun p hp => k p xs _ ((s3.trans s4).trans (same_upd hp)) upd_same (r4.up (same_ts (same_upd hp)))⟩⟩
end
end K53

set_option Elab.async false
set_option linter.all false
set_option maxRecDepth 100000
set_option maxHeartbeats 4000000
/-! the law's mathematics: what a cut leaves, the cuts -/
namespace K53
open PySem
def lens (W : List PyData) : List Nat := W.map fun d => (form d).length
/-- how many stand whole within c octets -/
def nF : List Nat → Nat → Nat
  | [], _ => 0
  | x :: l, c => if x ≤ c then 1 + nF l (c - x) else 0
theorem nF_le : ∀ (l : List Nat) (c : Nat), nF l c ≤ l.length
  | [], _ => Nat.le_refl _
  | x :: l, c => by
    unfold nF
    split
    · have := nF_le l (c - x)
      rw [List.length_cons]
      omega
    · exact Nat.zero_le _
theorem nF_mono : ∀ (l : List Nat) {c c' : Nat}, c ≤ c' → nF l c ≤ nF l c'
  | [], _, _, _ => Nat.le_refl _
  | x :: l, c, c', h => by
    unfold nF
    by_cases h1 : x ≤ c
    · rw [if_pos h1, if_pos (by omega)]
      have := nF_mono l (show c - x ≤ c' - x by omega)
      omega
    · rw [if_neg h1]
      exact Nat.zero_le _
theorem nF_app : ∀ (l m : List Nat) (c : Nat), nF l c ≤ nF (l ++ m) c
  | [], _, _ => Nat.zero_le _
  | x :: l, m, c => by
    show nF (x :: l) c ≤ nF (x :: (l ++ m)) c
    unfold nF
    split
    · have := nF_app l m (c - x)
      omega
    · exact Nat.le_refl _
theorem nF_full : ∀ (W : List PyData), nF (lens W) (formAll W).length = W.length
  | [] => rfl
  | d :: W => by
    show nF ((form d).length :: lens W) (formAll (d :: W)).length = W.length + 1
    rw [formAll_cons, List.length_append]
    unfold nF
    rw [if_pos (by omega), show (form d).length + (formAll W).length - (form d).length = (formAll W).length by omega, nF_full W]
    omega
/-- what c octets of rows hold -/
theorem cut_at : ∀ (W : List PyData) (c : Nat), ∃ tl, (formAll W).take c = formAll (W.take (nF (lens W) c)) ++ tl ∧ (tl = [] ∨ ∃ d t, d ∈ W ∧ t ≠ [] ∧ form d = tl ++ t)
  | [], c => ⟨[], by simp [formAll], .inl rfl⟩
  | d :: W, c => by
    show ∃ tl, (formAll (d :: W)).take c = formAll ((d :: W).take (nF ((form d).length :: lens W) c)) ++ tl ∧ _
    rw [formAll_cons]
    unfold nF
    by_cases h : (form d).length ≤ c
    · obtain ⟨tl, e, h2⟩ := cut_at W (c - (form d).length)
      refine ⟨tl, ?_, ?_⟩
      · rw [if_pos h, List.take_append, List.take_of_length_le h, e, Nat.add_comm, List.take_succ_cons, formAll_cons, List.append_assoc]
      · rcases h2 with h2 | ⟨d', t, h3, h4⟩
        · exact .inl h2
        · exact .inr ⟨d', t, List.mem_cons_of_mem _ h3, h4⟩
    · refine ⟨(form d).take c, ?_, .inr ⟨d, (form d).drop c, List.mem_cons_self, fun z => ?_, by rw [List.take_append_drop]⟩⟩
      · rw [if_neg h, List.take_append, show c - (form d).length = 0 by omega]
        simp [formAll]
      · have := congrArg List.length z
        rw [List.length_drop, List.length_nil] at this
        omega
theorem cut_torn {W : List PyData} (hW : ∀ d ∈ W, rowD d) (hl : W.length ≤ 1000) (c : Nat) : ∃ tl, Torn ((formAll W).take c) (W.take (nF (lens W) c)) tl := by
  obtain ⟨tl, e, h⟩ := cut_at W c
  refine ⟨tl, e, fun d hd => hW d (List.mem_of_mem_take hd), by rw [List.length_take]; omega, ?_⟩
  rcases h with rfl | ⟨d, t, h1, h2, h3⟩
  · have h0 := head_ok (t := 0) (m := 0) (by decide) (by decide)
    refine ⟨_, form (headD 0 0), h0, fun z => ?_, rfl⟩
    have := rowD_pos h0
    rw [z] at this
    cases this
  · exact ⟨d, t, hW d h1, h2, h3⟩
/-! ### the cuts: octet by octet, and row by row -/
abbrev tu (l : List PyData) : PyData := .tuple l
/-- acc ends in what d equals -/
def EndsIn (acc : List PyData) (d : PyData) : Prop := ∃ x, acc.getLast? = some x ∧ PyData.eqv x d = true
theorem ded_same {acc : List PyData} {d : PyData} (h : EndsIn acc d) : ded acc d = acc := by
  obtain ⟨x, h1, h2⟩ := h
  unfold ded
  rw [h1]
  exact if_pos h2
theorem ded_ends {acc : List PyData} {d : PyData} (hr : PyData.eqv d d = true) : EndsIn (ded acc d) d := by
  unfold ded
  split
  · exact ⟨d, rfl, hr⟩
  · rename_i x h
    split
    · rename_i h2
      exact ⟨x, h, h2⟩
    · exact ⟨d, by simp, hr⟩
theorem fold_same {acc : List PyData} {d : PyData} (h : EndsIn acc d) (f : Nat → PyData) : ∀ (l : List Nat), (∀ x ∈ l, f x = d) → l.foldl (fun a x => ded a (f x)) acc = acc
  | [], _ => rfl
  | x :: l, hx => by
    rw [List.foldl_cons, hx x List.mem_cons_self, ded_same h]
    exact fold_same h f l fun y hy => hx y (List.mem_cons_of_mem _ hy)
/-- the ends, from p on -/
def endsFrom : Nat → List PyData → List Nat
  | _, [] => []
  | p, d :: W => (p + (form d).length) :: endsFrom (p + (form d).length) W
theorem endsFrom_eq : ∀ (W : List PyData) (p : Nat), endsFrom p W = (List.range W.length).map fun i => p + (formAll (W.take (i + 1))).length
  | [], _ => rfl
  | d :: W, p => by
    unfold endsFrom
    rw [endsFrom_eq W, List.length_cons, List.range_succ_eq_map, List.map_cons, List.map_map]
    congr 1
    · simp [formAll_cons, formAll]
    · refine List.map_congr_left fun i _ => ?_
      show p + (form d).length + (formAll (W.take (i + 1))).length = p + (formAll ((d :: W).take (i + 1 + 1))).length
      rw [List.take_succ_cons, formAll_cons, List.length_append]
      omega
theorem endsF_from (W : List PyData) : endsF W = endsFrom 0 W := by
  rw [endsFrom_eq, endsF]
  exact List.map_congr_left fun i _ => by omega
/-- the two walks agree -/
theorem cuts_from (kept : Nat) (g : Nat → List PyData) (G : Nat → List PyData) (hr : ∀ i, PyData.eqv (tu (G i)) (tu (G i)) = true) : ∀ (W : List PyData) (p i : Nat) (acc : List PyData), (∀ d ∈ W, 0 < (form d).length) → (∀ c, kept ≤ c → p ≤ c → c ≤ p + (formAll W).length → g c = G (i + nF (lens W) (c - p))) →
    EndsIn acc (tu (g (max kept p))) → kept ≤ p + (formAll W).length →
    (endsFrom p W).foldl (fun a x => if kept ≤ x then ded a (tu (g x)) else a) acc = (List.range' (max kept p + 1) (p + (formAll W).length - max kept p)).foldl (fun a x => ded a (tu (g x))) acc
  | [], p, i, acc, _, _, _, hk => by
    have e0 : (formAll ([] : List PyData)).length = 0 := by simp [formAll]
    rw [e0] at hk ⊢
    have : p + 0 - max kept p = 0 := by omega
    rw [this]
    rfl
  | d :: W, p, i, acc, hp, hg, he, hk => by
    have hd := hp d List.mem_cons_self
    have hfl : (formAll (d :: W)).length = (form d).length + (formAll W).length := by rw [formAll_cons, List.length_append]
    rw [hfl] at hg hk ⊢
    have hn : ∀ c, nF (lens (d :: W)) c = if (form d).length ≤ c then 1 + nF (lens W) (c - (form d).length) else 0 := fun c => rfl
    have hg' : ∀ c, kept ≤ c → p + (form d).length ≤ c → c ≤ p + (form d).length + (formAll W).length → g c = G (i + 1 + nF (lens W) (c - (p + (form d).length))) := fun c h1 h2 h3 => by
      rw [hg c h1 (by omega) (by omega), hn, if_pos (by omega)]
      have : c - p - (form d).length = c - (p + (form d).length) := by omega
      rw [this]
      congr 1
      omega
    have hgi : ∀ c, kept ≤ c → p ≤ c → c < p + (form d).length → g c = G i := fun c h1 h2 h3 => by
      rw [hg c h1 h2 (by omega), hn, if_neg (by omega)]
      rfl
    unfold endsFrom
    rw [List.foldl_cons]
    by_cases hke : kept ≤ p + (form d).length
    · rw [if_pos hke]
      have hm : max kept (p + (form d).length) = p + (form d).length := by omega
      have hge : g (p + (form d).length) = G (i + 1 + nF (lens W) 0) := by
        rw [hg' _ hke (Nat.le_refl _) (by omega)]
        congr 2
        simp
      have hE : EndsIn (ded acc (tu (g (p + (form d).length)))) (tu (g (max kept (p + (form d).length)))) := by
        rw [hm]
        refine ded_ends ?_
        rw [hge]
        exact hr _
      rw [cuts_from kept g G hr W (p + (form d).length) (i + 1) _ (fun x hx => hp x (List.mem_cons_of_mem _ hx)) hg' hE (by omega), hm]
      by_cases hlt : max kept p < p + (form d).length
      · have hsplit : List.range' (max kept p + 1) (p + ((form d).length + (formAll W).length) - max kept p) = List.range' (max kept p + 1) (p + (form d).length - max kept p - 1) ++ ((p + (form d).length) :: List.range' (p + (form d).length + 1) (formAll W).length) := by
          have e1 : p + ((form d).length + (formAll W).length) - max kept p = (p + (form d).length - max kept p - 1) + ((formAll W).length + 1) := by omega
          rw [e1, ← List.range'_append_1, List.range'_succ]
          congr 2
          · omega
          · congr 1
            omega
        rw [hsplit, List.foldl_append, List.foldl_cons]
        have hsame : (List.range' (max kept p + 1) (p + (form d).length - max kept p - 1)).foldl (fun a x => ded a (tu (g x))) acc = acc := by
          refine fold_same he _ _ fun x hx => ?_
          rw [List.mem_range'_1] at hx
          rw [hgi x (by omega) (by omega) (by omega), hgi (max kept p) (by omega) (by omega) hlt]
        rw [hsame]
        congr 2
        omega
      · have e2 : max kept p = p + (form d).length := by omega
        rw [e2] at he ⊢
        rw [ded_same he]
        congr 2
        omega
    · rw [if_neg hke]
      have hm : max kept (p + (form d).length) = max kept p := by omega
      have := cuts_from kept g G hr W (p + (form d).length) (i + 1) acc (fun x hx => hp x (List.mem_cons_of_mem _ hx)) hg' (by rw [hm]; exact he) (by omega)
      rw [this, hm]
      congr 2
      omega
theorem cuts_eq {W : List PyData} {kept : Nat} {g G : Nat → List PyData} (hW : ∀ d ∈ W, rowD d) (hr : ∀ i, PyData.eqv (tu (G i)) (tu (G i)) = true) (hg : ∀ c, kept ≤ c → c ≤ (formAll W).length → g c = G (nF (lens W) c)) (hk : kept ≤ (formAll W).length) :
    (List.range ((formAll W).length - kept + 1)).foldl (fun a x => ded a (tu (g (kept + x)))) [] = cutsF kept g (kept :: endsF W) := by
  unfold cutsF
  rw [List.foldl_cons, if_pos (Nat.le_refl _), endsF_from]
  have he : EndsIn (ded [] (tu (g kept))) (tu (g (max kept 0))) := by
    rw [Nat.max_zero]
    refine ded_ends ?_
    rw [hg kept (Nat.le_refl _) hk]
    exact hr _
  have h := cuts_from kept g G hr W 0 0 _ (fun d hd => rowD_pos (hW d hd)) (fun c h1 _ h3 => by rw [hg c h1 (by omega)]; simp) he (by omega)
  rw [Nat.max_zero, Nat.zero_add] at h
  rw [h]
  have e : (List.range ((formAll W).length - kept + 1)).foldl (fun a x => ded a (tu (g (kept + x)))) [] = ((List.range ((formAll W).length - kept + 1)).map (kept + ·)).foldl (fun a x => ded a (tu (g x))) [] := by rw [List.foldl_map]
  rw [e, ← List.range'_eq_map_range, List.range'_succ, List.foldl_cons]
end K53

set_option Elab.async false
set_option linter.all false
set_option maxRecDepth 100000
set_option maxHeartbeats 4000000
/-! the law's own state, and what it says of the journal -/
namespace K53
open PySem
/-- a row of the law -/
def LR (d : PyData) : Prop := rowD d ∧ (form d).length ≤ 64 ∧ d.showable = true ∧ d.shown.length ≤ 100
/-- what the law holds -/
structure Ow where
  rows : List PyData
  many : Nat
  kept : Nat
  page : Nat
  term : Nat
  er : List PyData
  et : Nat
  em : Nat
def Ow.W (O : Ow) : List PyData := headD O.term O.many :: O.rows
def Ow.n (O : Ow) (c : Nat) : Nat := nF (lens O.W) c
def Ow.rowsAt (O : Ow) (c : Nat) : List PyData := if 1 + O.many ≤ O.n c then O.rows.take (O.n c - 1) else O.er
def Ow.bh (O : Ow) (left : Nat) : List PyData × Nat × Nat := if 1 + O.many ≤ O.n (O.kept + left) then (O.rows.take (O.n (O.kept + left) - 1), O.term, O.page) else (O.er, O.et, 1 - O.page)
def Ow.tl (O : Ow) (c : Nat) : Told := if 1 + O.many ≤ O.n c then some (O.term, O.rows.take (O.n c - 1), (formAll (O.W.take (O.n c))).length) else none
def Ow.cut (O : Ow) (left : Nat) : Ow := if 1 + O.many ≤ O.n (O.kept + left) then { O with rows := O.rows.take (O.n (O.kept + left) - 1), kept := (formAll (O.W.take (O.n (O.kept + left)))).length }
  else { rows := O.er, many := O.em, kept := (pageO O.et O.em O.er).length, page := 1 - O.page, term := O.et, er := [], et := 0, em := 0 }
theorem bh_rows (O : Ow) (left : Nat) : (O.bh left).1 = O.rowsAt (O.kept + left) := by
  unfold Ow.bh Ow.rowsAt
  split <;> rfl
theorem Ow.n_le (O : Ow) (c : Nat) : O.n c ≤ 1 + O.rows.length := by
  have := nF_le (lens O.W) c
  unfold Ow.n
  have e : (lens O.W).length = O.rows.length + 1 := by simp [lens, Ow.W]
  omega
structure Inv2 (N : Nat) (S : Js) (O : Ow) : Prop where
  pg : S.page = O.page
  p1 : O.page ≤ 1
  tm : S.term = O.term
  rw : S.rows = O.rows
  kp : S.kept = O.kept
  cur : S.cur = formAll O.W
  rl : ∀ d ∈ O.rows, LR d
  el : ∀ d ∈ O.er, LR d
  many : O.many ≤ O.rows.length
  rn : O.rows.length ≤ N
  en : O.er.length ≤ N
  tn : O.term ≤ N
  kc : O.kept ≤ (formAll O.W).length
  em : O.em ≤ O.er.length
  st : (1 + O.many ≤ O.n O.kept ∧ ∃ r, PageOk S.oth r ∧ ∀ x, r = some x → x.1 < O.term) ∨ (O.kept = 0 ∧ S.oth = pageO O.et O.em O.er ∧ O.et < O.term)
/-! ### pages put, taken -/
section
variable (S : Js) (os : List Nat)
theorem put_cur : (S.put os).cur = os := by
  unfold Js.put
  by_cases z : S.page = 0
  · rw [if_pos z]; unfold Js.cur; rw [if_pos z]
  · rw [if_neg z]; unfold Js.cur; rw [if_neg z]
theorem put_oth : (S.put os).oth = S.oth := by
  unfold Js.put
  by_cases z : S.page = 0
  · rw [if_pos z]; unfold Js.oth; rw [if_pos z, if_pos z]
  · rw [if_neg z]; unfold Js.oth; rw [if_neg z, if_neg z]
theorem put_page : (S.put os).page = S.page := by unfold Js.put; split <;> rfl
theorem put_term : (S.put os).term = S.term := by unfold Js.put; split <;> rfl
theorem put_rows : (S.put os).rows = S.rows := by unfold Js.put; split <;> rfl
theorem put_kept : (S.put os).kept = S.kept := by unfold Js.put; split <;> rfl
theorem put_same : S.put S.cur = S := by
  unfold Js.put Js.cur
  by_cases z : S.page = 0
  · rw [if_pos z, if_pos z]
  · rw [if_neg z, if_neg z]
theorem pages_ok {rc ro : Told} (hc : PageOk os rc) (ho : PageOk S.oth ro) : PageOk (S.put os).p0 (if S.page = 0 then rc else ro) ∧ PageOk (S.put os).p1 (if S.page = 0 then ro else rc) := by
  unfold Js.put
  unfold Js.oth at ho
  by_cases z : S.page = 0
  · rw [if_pos z, if_pos z, if_pos z]
    rw [if_pos z] at ho
    exact ⟨hc, ho⟩
  · rw [if_neg z, if_neg z, if_neg z]
    rw [if_neg z] at ho
    exact ⟨ho, hc⟩
variable (t : Nat) (rows : List PyData) (b : Nat)
theorem goto_page (pg : Nat) : (S.goto pg t rows b).page = pg := by unfold Js.goto; exact put_page _ _
theorem goto_term (pg : Nat) : (S.goto pg t rows b).term = t := by unfold Js.goto; exact put_term _ _
theorem goto_rows (pg : Nat) : (S.goto pg t rows b).rows = rows := by unfold Js.goto; exact put_rows _ _
theorem goto_cur : (S.goto S.page t rows b).cur = S.cur.take b := put_cur { S with page := S.page, term := t, rows := rows } _
theorem goto_oth : (S.goto S.page t rows b).oth = S.oth := put_oth { S with page := S.page, term := t, rows := rows } _
theorem goto_cur' (h : S.page ≤ 1) : (S.goto (1 - S.page) t rows b).cur = S.oth.take b := by
  refine (put_cur { S with page := 1 - S.page, term := t, rows := rows } _).trans ?_
  congr 1
  unfold Js.cur Js.oth
  by_cases z : S.page = 0
  · rw [if_neg (by show ¬ 1 - S.page = 0; omega), if_pos z]
  · rw [if_pos (by show 1 - S.page = 0; omega), if_neg z]
theorem goto_oth' (h : S.page ≤ 1) : (S.goto (1 - S.page) t rows b).oth = S.cur := by
  refine (put_oth { S with page := 1 - S.page, term := t, rows := rows } _).trans ?_
  unfold Js.cur Js.oth
  by_cases z : S.page = 0
  · rw [if_neg (by show ¬ 1 - S.page = 0; omega), if_pos z]
  · rw [if_pos (by show 1 - S.page = 0; omega), if_neg z]
theorem at_oth (h : S.page ≤ 1) : ({ S with page := 1 - S.page } : Js).cur = S.oth := by
  unfold Js.cur Js.oth
  by_cases z : S.page = 0
  · rw [if_neg (by show ¬ 1 - S.page = 0; omega), if_pos z]
  · rw [if_pos (by show 1 - S.page = 0; omega), if_neg z]
end
theorem pick_cur {page : Nat} {rc ro : Told} {t : Nat} {rows : List PyData} {b : Nat} (h1 : page ≤ 1) (hc : rc = some (t, rows, b)) (ho : ∀ x, ro = some x → x.1 < t) : best (if page = 0 then rc else ro) (if page = 0 then ro else rc) = some (page, t, rows, b) := by
  subst hc
  by_cases z : page = 0
  · rw [if_pos z, if_pos z, z]
    cases ro with
    | none => rfl
    | some x =>
      have := ho x rfl
      show (if t < x.1 then _ else some (0, t, rows, b)) = _
      rw [if_neg (by omega)]
  · have z1 : page = 1 := by omega
    rw [if_neg z, if_neg z, z1]
    cases ro with
    | none => rfl
    | some x =>
      have := ho x rfl
      show (if x.1 < t then some (1, t, rows, b) else _) = _
      rw [if_pos (by omega)]
theorem pick_oth {page : Nat} {rc ro : Told} {t : Nat} {rows : List PyData} {b : Nat} (h1 : page ≤ 1) (hc : rc = none) (ho : ro = some (t, rows, b)) : best (if page = 0 then rc else ro) (if page = 0 then ro else rc) = some (1 - page, t, rows, b) := by
  subst hc ho
  by_cases z : page = 0
  · rw [if_pos z, if_pos z, z]; rfl
  · have z1 : page = 1 := by omega
    rw [if_neg z, if_neg z, z1]; rfl
theorem rowsOk {l : List PyData} (h : ∀ d ∈ l, LR d) : ∀ d ∈ l, rowD d := fun d hd => (h d hd).1
theorem W_ok {N : Nat} {O : Ow} (hN : N ≤ 100) (rl : ∀ d ∈ O.rows, LR d) (tn : O.term ≤ N) (hm : O.many ≤ O.rows.length) (rn : O.rows.length ≤ N) : ∀ d ∈ O.W, rowD d := fun d hd => by
  rcases List.mem_cons.mp hd with e | e
  · rw [e]; exact head_ok (by omega) (by omega)
  · exact (rl d e).1
theorem page_whole {t m : Nat} {rows : List PyData} (hr : ∀ d ∈ rows, rowD d) (ht : t ≤ 100) (hm : m ≤ rows.length) (hl : rows.length ≤ 100) : PageOk (pageO t m rows) (some (t, rows, (pageO t m rows).length)) := by
  have hW : ∀ d ∈ headD t m :: rows, rowD d := fun d hd => by
    rcases List.mem_cons.mp hd with e | e
    · rw [e]; exact head_ok (by omega) (by omega)
    · exact hr d e
  exact ⟨rowAll_lt hW, _, [], torn_whole hW (by simp; omega), .inr ⟨t, m, rows, rfl, by rw [if_pos hm]; rfl⟩⟩
theorem page_cut {O : Ow} (hW : ∀ d ∈ O.W, rowD d) (hl : O.rows.length ≤ 100) (c : Nat) : PageOk ((formAll O.W).take c) (O.tl c) := by
  obtain ⟨tl, hT⟩ := cut_torn hW (by simp [Ow.W]; omega) c
  refine ⟨fun x hx => rowAll_lt hW x (List.mem_of_mem_take hx), _, tl, hT, ?_⟩
  by_cases h0 : O.n c = 0
  · refine .inl ⟨by show O.W.take (O.n c) = []; rw [h0]; rfl, ?_⟩
    unfold Ow.tl
    rw [if_neg (by omega)]
  · obtain ⟨k, hk⟩ : ∃ k, O.n c = k + 1 := ⟨O.n c - 1, by omega⟩
    have hle := O.n_le c
    refine .inr ⟨O.term, O.many, O.rows.take k, by show O.W.take (O.n c) = _; rw [hk]; rfl, ?_⟩
    have hlen : (O.rows.take k).length = k := by rw [List.length_take]; omega
    unfold Ow.tl
    rw [hlen, hk]
    by_cases hm : O.many ≤ k
    · rw [if_pos (by omega), if_pos hm]
      show some (O.term, O.rows.take (k + 1 - 1), _) = some (O.term, O.rows.take k, (formAll (O.W.take (nF (lens O.W) c))).length)
      rw [show nF (lens O.W) c = k + 1 from hk]
      rfl
    · rw [if_neg (by omega), if_neg hm]
theorem take_whole (W : List PyData) (c : Nat) : (formAll (W.take (nF (lens W) c))).length ≤ c ∧ ((formAll W).take c).take (formAll (W.take (nF (lens W) c))).length = formAll (W.take (nF (lens W) c)) := by
  obtain ⟨tl, e, _⟩ := cut_at W c
  have h1 := congrArg List.length e
  rw [List.length_append] at h1
  have h2 : ((formAll W).take c).length ≤ c := by rw [List.length_take]; omega
  exact ⟨by omega, by rw [e, List.take_left]⟩
theorem Inv2.room {N N' : Nat} {S : Js} {O : Ow} (h : Inv2 N S O) (hn : N ≤ N') : Inv2 N' S O := { h with rn := by have := h.rn; omega, en := by have := h.en; omega, tn := by have := h.tn; omega }
/-- a cut -/
theorem Inv2.cutOk {N : Nat} {S : Js} {O : Ow} (h : Inv2 N S O) (hN : N ≤ 100) (left : Nat) (hl : O.kept + left ≤ (formAll O.W).length) :
    ∃ r0 r1 b, PageOk (S.cut1 left).p0 r0 ∧ PageOk (S.cut1 left).p1 r1 ∧ best r0 r1 = some ((O.bh left).2.2, (O.bh left).2.1, (O.bh left).1, b) ∧ (O.bh left).2.2 ≤ 1 ∧ b ≤ ({ S.cut1 left with page := (O.bh left).2.2 } : Js).cur.length ∧
      Inv2 N ((S.cut1 left).goto (O.bh left).2.2 (O.bh left).2.1 (O.bh left).1 b) (O.cut left) ∧ (O.cut left).kept = (formAll (O.cut left).W).length ∧ ((O.bh left).2.2 = O.page → ((S.cut1 left).goto (O.bh left).2.2 (O.bh left).2.1 (O.bh left).1 b).oth = S.oth) := by
  have hW := W_ok hN h.rl h.tn h.many h.rn
  have rn := h.rn
  have hC : S.cur.take (S.kept + left) = (formAll O.W).take (O.kept + left) := by rw [h.cur, h.kp]
  have hpc : PageOk (S.cur.take (S.kept + left)) (O.tl (O.kept + left)) := by rw [hC]; exact page_cut hW (by omega) _
  have hn1 := O.n_le (O.kept + left)
  have hp1 := h.p1
  have hpg := h.pg
  have cpage : (S.cut1 left).page = O.page := by unfold Js.cut1; rw [put_page, hpg]
  have ccur : (S.cut1 left).cur = (formAll O.W).take (O.kept + left) := by unfold Js.cut1; rw [put_cur, hC]
  have coth : (S.cut1 left).oth = S.oth := put_oth _ _
  by_cases hc : 1 + O.many ≤ O.n (O.kept + left)
  · -- the page stands
    have ho : ∃ r, PageOk S.oth r ∧ ∀ x, r = some x → x.1 < O.term := by
      rcases h.st with ⟨_, h2⟩ | ⟨_, h2, h3⟩
      · exact h2
      · refine ⟨_, by rw [h2]; exact page_whole (rowsOk h.el) (by have := h.tn; omega) h.em (by have := h.en; omega), fun x hx => ?_⟩
        cases hx
        exact h3
    obtain ⟨ro, hro, hlt⟩ := ho
    obtain ⟨P0, P1⟩ := pages_ok S _ hpc hro
    have etl : O.tl (O.kept + left) = some (O.term, O.rows.take (O.n (O.kept + left) - 1), (formAll (O.W.take (O.n (O.kept + left)))).length) := if_pos hc
    have ebh : O.bh left = (O.rows.take (O.n (O.kept + left) - 1), O.term, O.page) := if_pos hc
    have ecut : O.cut left = { O with rows := O.rows.take (O.n (O.kept + left) - 1), kept := (formAll (O.W.take (O.n (O.kept + left)))).length } := if_pos hc
    have hb := pick_cur (page := S.page) (by omega) etl hlt
    obtain ⟨tw1, tw2⟩ := take_whole O.W (O.kept + left)
    have hlen : (O.rows.take (O.n (O.kept + left) - 1)).length = O.n (O.kept + left) - 1 := by rw [List.length_take]; omega
    have hWt : (O.cut left).W = O.W.take (O.n (O.kept + left)) := by
      rw [ecut]
      unfold Ow.W
      obtain ⟨k, hk⟩ : ∃ k, O.n (O.kept + left) = k + 1 := ⟨O.n (O.kept + left) - 1, by omega⟩
      rw [hk, List.take_succ_cons]
      rfl
    refine ⟨_, _, (formAll (O.W.take (O.n (O.kept + left)))).length, P0, P1, ?_, ?_, ?_, ?_, ?_, ?_⟩
    · rw [hb, ebh, hpg]
    · rw [ebh]; exact hp1
    · rw [ebh]
      show _ ≤ ({ S.cut1 left with page := O.page } : Js).cur.length
      rw [← cpage]
      show _ ≤ (S.cut1 left).cur.length
      rw [ccur, List.length_take]
      have : (formAll (O.W.take (O.n (O.kept + left)))).length ≤ O.kept + left := tw1
      omega
    · rw [ebh]
      dsimp only
      have e3 : ((S.cut1 left).goto O.page O.term (O.rows.take (O.n (O.kept + left) - 1)) (formAll (O.W.take (O.n (O.kept + left)))).length).cur = formAll (O.cut left).W := by
        rw [← cpage, goto_cur, ccur, hWt]
        exact tw2
      have e4 : ((S.cut1 left).goto O.page O.term (O.rows.take (O.n (O.kept + left) - 1)) (formAll (O.W.take (O.n (O.kept + left)))).length).oth = S.oth := by
        rw [← cpage, goto_oth, coth]
      refine ⟨?_, ?_, ?_, ?_, ?_, e3, ?_, ?_, ?_, ?_, ?_, ?_, ?_, ?_, ?_⟩
      · rw [goto_page, ecut]
      · rw [ecut]; exact hp1
      · rw [goto_term, ecut]
      · rw [goto_rows, ecut]
      · rw [ecut]; rfl
      · rw [ecut]; exact fun d hd => h.rl d (List.mem_of_mem_take hd)
      · rw [ecut]; exact h.el
      · rw [ecut]; show O.many ≤ (O.rows.take _).length; omega
      · rw [ecut]; show (O.rows.take _).length ≤ N; omega
      · rw [ecut]; exact h.en
      · rw [ecut]; exact h.tn
      · rw [hWt, ecut]; exact Nat.le_refl _
      · rw [ecut]; exact h.em
      · refine .inl ⟨?_, ro, by rw [e4]; exact hro, fun x hx => by rw [ecut]; exact hlt x hx⟩
        have ek : (O.cut left).kept = (formAll (O.cut left).W).length := by rw [hWt, ecut]
        have em : (O.cut left).many = O.many := by rw [ecut]
        unfold Ow.n
        rw [ek, nF_full, em, hWt, List.length_take]
        have : O.W.length = O.rows.length + 1 := rfl
        omega
    · rw [hWt, ecut]
    · intro _
      rw [ebh]
      show ((S.cut1 left).goto O.page _ _ _).oth = S.oth
      rw [← cpage, goto_oth, coth]
  · -- the page that was begun isn't whole: the elder
    obtain ⟨hk0, hoth, hlt⟩ : O.kept = 0 ∧ S.oth = pageO O.et O.em O.er ∧ O.et < O.term := by
      rcases h.st with ⟨h1, _⟩ | h2
      · have := nF_mono (lens O.W) (show O.kept ≤ O.kept + left by omega)
        have h3 : O.n O.kept ≤ O.n (O.kept + left) := this
        omega
      · exact h2
    have hro : PageOk S.oth (some (O.et, O.er, (pageO O.et O.em O.er).length)) := by
      rw [hoth]
      exact page_whole (rowsOk h.el) (by have := h.tn; omega) h.em (by have := h.en; omega)
    obtain ⟨P0, P1⟩ := pages_ok S _ hpc hro
    have etl : O.tl (O.kept + left) = none := if_neg hc
    have ebh : O.bh left = (O.er, O.et, 1 - O.page) := if_neg hc
    have ecut : O.cut left = { rows := O.er, many := O.em, kept := (pageO O.et O.em O.er).length, page := 1 - O.page, term := O.et, er := [], et := 0, em := 0 } := if_neg hc
    have hb := pick_oth (page := S.page) (by omega) etl rfl (ro := some (O.et, O.er, (pageO O.et O.em O.er).length))
    have hW' : formAll (O.cut left).W = pageO O.et O.em O.er := by rw [ecut]; rfl
    refine ⟨_, _, (pageO O.et O.em O.er).length, P0, P1, ?_, ?_, ?_, ?_, ?_, ?_⟩
    · rw [hb, ebh, hpg]
    · rw [ebh]; show 1 - O.page ≤ 1; omega
    · rw [ebh]
      show _ ≤ ({ S.cut1 left with page := 1 - O.page } : Js).cur.length
      rw [← cpage, at_oth _ (by omega), coth, hoth]
      exact Nat.le_refl _
    · rw [ebh]
      dsimp only
      have e3 : ((S.cut1 left).goto (1 - O.page) O.et O.er (pageO O.et O.em O.er).length).cur = formAll (O.cut left).W := by
        rw [← cpage, goto_cur' _ _ _ _ (by omega), coth, hoth, hW', List.take_length]
      have e4 : ((S.cut1 left).goto (1 - O.page) O.et O.er (pageO O.et O.em O.er).length).oth = (formAll O.W).take (O.kept + left) := by
        rw [← cpage, goto_oth' _ _ _ _ (by omega), ccur]
      refine ⟨?_, ?_, ?_, ?_, ?_, e3, ?_, ?_, ?_, ?_, ?_, ?_, ?_, ?_, ?_⟩
      · rw [goto_page, ecut]
      · rw [ecut]; show 1 - O.page ≤ 1; omega
      · rw [goto_term, ecut]
      · rw [goto_rows, ecut]
      · rw [ecut]; rfl
      · rw [ecut]; exact h.el
      · rw [ecut]; exact fun d hd => by cases hd
      · rw [ecut]; exact h.em
      · rw [ecut]; exact h.en
      · rw [ecut]; exact Nat.zero_le _
      · rw [ecut]; have := h.tn; show O.et ≤ N; omega
      · rw [hW', ecut]; exact Nat.le_refl _
      · rw [ecut]; exact Nat.le_refl _
      · refine .inl ⟨?_, none, ?_, fun x hx => by cases hx⟩
        · have ek : (O.cut left).kept = (formAll (O.cut left).W).length := by rw [hW', ecut]
          unfold Ow.n
          rw [ek, nF_full, ecut]
          have := h.em
          show 1 + O.em ≤ (_ :: O.er).length
          rw [List.length_cons]
          omega
        · rw [e4, ← etl]
          exact page_cut hW (by omega) _
    · rw [hW', ecut]
    · intro e
      rw [ebh] at e
      have e' : 1 - O.page = O.page := e
      omega
end K53

set_option Elab.async false
set_option linter.all false
set_option maxRecDepth 100000
set_option maxHeartbeats 4000000
/-! the law's turns, and how long what is shown may be -/
namespace K53
open PySem
/-! ### the turns -/
theorem formAll_W_snoc (O : Ow) (d : PyData) : formAll ({ O with rows := O.rows ++ [d] } : Ow).W = formAll O.W ++ form d := by
  show formAll ((headD O.term O.many :: O.rows) ++ [d]) = _
  exact formAll_snoc _ _
theorem Inv2.lay {N : Nat} {S : Js} {O : Ow} (h : Inv2 N S O) {d : PyData} (hd : LR d) : Inv2 (N + 1) (S.lay d) { O with rows := O.rows ++ [d] } := by
  have eO : (S.lay d).oth = S.oth := put_oth S (S.cur ++ form d)
  have rn := h.rn
  have en := h.en
  have tn := h.tn
  have many := h.many
  refine ⟨?_, h.p1, ?_, ?_, ?_, ?_, ?_, h.el, ?_, ?_, ?_, ?_, ?_, h.em, ?_⟩
  · show (S.put _).page = O.page
    rw [put_page]; exact h.pg
  · show (S.put _).term = O.term
    rw [put_term]; exact h.tm
  · show S.rows ++ [d] = O.rows ++ [d]
    rw [h.rw]
  · show (S.put _).kept = O.kept
    rw [put_kept]; exact h.kp
  · rw [formAll_W_snoc]
    show (S.put (S.cur ++ form d)).cur = _
    rw [put_cur, h.cur]
  · intro x hx
    rcases List.mem_append.mp hx with e | e
    · exact h.rl x e
    · rw [List.mem_singleton.mp e]; exact hd
  · show O.many ≤ (O.rows ++ [d]).length
    rw [List.length_append]; omega
  · show (O.rows ++ [d]).length ≤ N + 1
    rw [List.length_append, List.length_singleton]; omega
  · show O.er.length ≤ N + 1
    omega
  · show O.term ≤ N + 1
    omega
  · rw [formAll_W_snoc, List.length_append]
    have := h.kc
    show O.kept ≤ _
    omega
  · rw [eO]
    rcases h.st with ⟨h1, h2⟩ | h2
    · refine .inl ⟨?_, h2⟩
      have e : lens ({ O with rows := O.rows ++ [d] } : Ow).W = lens O.W ++ [(form d).length] := by
        show lens ((headD O.term O.many :: O.rows) ++ [d]) = _
        rw [lens, List.map_append]
        rfl
      show 1 + O.many ≤ nF (lens ({ O with rows := O.rows ++ [d] } : Ow).W) O.kept
      rw [e]
      exact Nat.le_trans h1 (nF_app _ _ _)
    · exact .inr h2
theorem Inv2.keep {N : Nat} {S : Js} {O : Ow} (h : Inv2 N S O) (hN : N ≤ 100) : Inv2 N { S with kept := S.cur.length } { O with kept := (formAll O.W).length } := by
  have tn := h.tn
  have en := h.en
  have many := h.many
  refine ⟨h.pg, h.p1, h.tm, h.rw, ?_, h.cur, h.rl, h.el, h.many, h.rn, h.en, h.tn, Nat.le_refl _, h.em, .inl ⟨?_, ?_⟩⟩
  · show S.cur.length = _
    rw [h.cur]
  · show 1 + O.many ≤ nF (lens O.W) (formAll O.W).length
    rw [nF_full]
    show 1 + O.many ≤ O.rows.length + 1
    omega
  · rcases h.st with ⟨_, h2⟩ | ⟨_, h2, h3⟩
    · exact h2
    · have h2' : ({ S with kept := S.cur.length } : Js).oth = pageO O.et O.em O.er := h2
      refine ⟨_, by rw [h2']; exact page_whole (rowsOk h.el) (by omega) h.em (by omega), fun x hx => ?_⟩
      cases hx
      exact h3
theorem Inv2.begin {N : Nat} {S : Js} {O : Ow} (h : Inv2 N S O) {ds : List PyData} (hd : ∀ d ∈ ds, LR d) (hl : ds.length ≤ N) :
    Inv2 (N + 1) (S.begin ds) { rows := ds, many := ds.length, kept := 0, page := 1 - O.page, term := O.term + 1, er := O.rows, et := O.term, em := O.many } := by
  have rn := h.rn
  have tn := h.tn
  have p1 := h.p1
  have hp : S.page ≤ 1 := by rw [h.pg]; exact p1
  have many := h.many
  have e1 : (S.begin ds).cur = pageO (S.term + 1) ds.length ds := put_cur _ _
  have e2 : (S.begin ds).oth = S.cur := by
    refine (put_oth ({ S with page := 1 - S.page, term := S.term + 1 } : Js) _).trans ?_
    unfold Js.cur Js.oth
    by_cases z : S.page = 0
    · rw [if_neg (by show ¬ 1 - S.page = 0; omega), if_pos z]
    · rw [if_pos (by show 1 - S.page = 0; omega), if_neg z]
  refine ⟨?_, ?_, ?_, rfl, rfl, ?_, hd, h.rl, Nat.le_refl _, ?_, ?_, ?_, Nat.zero_le _, h.many, .inr ⟨rfl, ?_, ?_⟩⟩
  · show (Js.put _ _).page = 1 - O.page
    rw [put_page, ← h.pg]
  · show 1 - O.page ≤ 1
    omega
  · show (Js.put _ _).term = O.term + 1
    rw [put_term, ← h.tm]
  · rw [e1, h.tm]
    rfl
  · show ds.length ≤ N + 1
    omega
  · show O.rows.length ≤ N + 1
    omega
  · show O.term + 1 ≤ N + 1
    omega
  · rw [e2, h.cur]
    rfl
  · show O.term < O.term + 1
    omega
def S0 : Js := ⟨pageO 0 0 [], [], 0, 0, [], (pageO 0 0 []).length⟩
def O0 : Ow := ⟨[], 0, (pageO 0 0 []).length, 0, 0, [], 0, 0⟩
theorem inv_init : Inv2 0 S0 O0 := by
  refine ⟨rfl, Nat.zero_le _, rfl, rfl, rfl, rfl, fun d hd => (by cases hd), fun d hd => (by cases hd), Nat.le_refl _, Nat.le_refl _, Nat.le_refl _, Nat.le_refl _, Nat.le_refl _, Nat.le_refl _, .inl ⟨?_, none, ?_, fun x hx => by cases hx⟩⟩
  · show 1 + 0 ≤ nF (lens O0.W) (formAll O0.W).length
    rw [nF_full]
    exact Nat.le_refl _
  · have t0 : Torn [] [] [] := by
      have h := torn_whole (W := []) (fun d hd => by cases hd) (Nat.zero_le _)
      rwa [show formAll [] = [] by simp [formAll]] at h
    exact ⟨fun x hx => (by cases hx), [], [], t0, .inl ⟨rfl, rfl⟩⟩
/-- a cut of nothing behind all that is kept -/
theorem Inv2.full {N : Nat} {S : Js} {O : Ow} (h : Inv2 N S O) (hk : O.kept = (formAll O.W).length) : O.bh 0 = (O.rows, O.term, O.page) ∧ O.cut 0 = O := by
  have many := h.many
  have hn : O.n (O.kept + 0) = O.rows.length + 1 := by
    unfold Ow.n
    rw [Nat.add_zero, hk, nF_full]
    rfl
  have hc : 1 + O.many ≤ O.n (O.kept + 0) := by omega
  have e1 : O.rows.take (O.n (O.kept + 0) - 1) = O.rows := by rw [hn]; exact List.take_of_length_le (by omega)
  have e2 : O.W.take (O.n (O.kept + 0)) = O.W := by rw [hn]; exact List.take_of_length_le (Nat.le_refl _)
  refine ⟨?_, ?_⟩
  · unfold Ow.bh
    rw [if_pos hc, e1]
  · unfold Ow.cut
    rw [if_pos hc, e1, e2, ← hk]
/-! ### the cuts that may stand -/
def Ow.G (O : Ow) (i : Nat) : List PyData := if 1 + O.many ≤ i then O.rows.take (i - 1) else O.er
theorem G_ok {N : Nat} {S : Js} {O : Ow} (h : Inv2 N S O) (i : Nat) : ∀ d ∈ O.G i, LR d := by
  unfold Ow.G
  split
  · exact fun d hd => h.rl d (List.mem_of_mem_take hd)
  · exact h.el
theorem G_len {N : Nat} {S : Js} {O : Ow} (h : Inv2 N S O) (i : Nat) : (O.G i).length ≤ N := by
  have rn := h.rn
  have en := h.en
  unfold Ow.G
  split
  · rw [List.length_take]; omega
  · exact en
theorem rowsAt_G (O : Ow) (c : Nat) : O.rowsAt c = O.G (O.n c) := rfl
theorem Inv2.cuts {N : Nat} {S : Js} {O : Ow} (h : Inv2 N S O) (hN : N ≤ 100) : (List.range ((formAll O.W).length - O.kept + 1)).foldl (fun a x => ded a (tu (O.rowsAt (O.kept + x)))) [] = cutsF O.kept O.rowsAt (O.kept :: endsF O.W) :=
  cuts_eq (G := O.G) (W_ok hN h.rl h.tn h.many h.rn) (fun i => rows_refl (rowsOk (G_ok h i))) (fun c _ _ => rfl) h.kc
/-! ### how long -/
theorem ints_len {b : Nat} : ∀ {l : List Nat}, l.length ≤ b → l.length ≤ b := id
theorem form_int_len {i : Int} (h : i.natAbs < 256 ^ 8) : (form (.int i)).length ≤ 10 := by
  unfold form
  split
  · have := numF_len (n := i.toNat) (k := 8) (by omega)
    rw [List.length_cons]
    omega
  · have := numF_len (n := (-1 - i).toNat) (k := 8) (by omega)
    rw [List.length_cons]
    omega
theorem head_len {t m : Nat} (ht : t < 256 ^ 8) (hm : m < 256 ^ 8) : (form (headD t m)).length ≤ 64 := by
  unfold headD
  rw [form_tup, formAll_cons, formAll_cons, formAll_cons]
  have h1 : (numF (0 + 1 + 1 + 1)).length ≤ 2 := numF_len (n := 3) (k := 1) (by decide)
  have h2 := form_int_len (i := (t : Int)) (by omega)
  have h3 := form_int_len (i := (m : Int)) (by omega)
  have h4 : (form (.str "page")).length ≤ 20 := by
    rw [form_str, List.length_cons, List.length_append, List.length_map]
    have h5 := numF_len (n := ("page" : Str).length) (k := 1) (by decide +kernel)
    have h6 : (("page" : Str).cps.toList).length ≤ 4 := by decide +kernel
    omega
  have h0 : (formAll []).length = 0 := by simp [formAll]
  simp only [List.length_cons, List.length_append, List.length_nil]
  omega
theorem rowsF_len : ∀ {l : List PyData}, (∀ d ∈ l, LR d) → (formAll l).length ≤ 64 * l.length
  | [], _ => by simp [formAll]
  | d :: l, h => by
    rw [formAll_cons, List.length_append, List.length_cons]
    have h1 := (h d List.mem_cons_self).2.1
    have h2 := rowsF_len (l := l) fun x hx => h x (List.mem_cons_of_mem _ hx)
    omega
theorem page_len {t m : Nat} {l : List PyData} (ht : t < 256 ^ 8) (hm : m < 256 ^ 8) (h : ∀ d ∈ l, LR d) : (pageO t m l).length ≤ 64 * l.length + 64 := by
  unfold pageO
  rw [formAll_cons, List.length_append]
  have := head_len ht hm
  have := rowsF_len h
  omega
/-- it can be shown, so deep, so long -/
def Sh (b e : Nat) (d : PyData) : Prop := d.showable = true ∧ d.depth ≤ e ∧ d.shown.length ≤ b
theorem Sh.mono {b e b' e' : Nat} {d : PyData} (h : Sh b e d) (hb : b ≤ b') (he : e ≤ e') : Sh b' e' d := ⟨h.1, Nat.le_trans h.2.1 he, Nat.le_trans h.2.2 hb⟩
theorem sh_int {i : Int} {k : Nat} (hk : 0 < k) (hk2 : k ≤ 500) (h : i.natAbs < 10 ^ k) : Sh (k + 1) 0 (.int i) := by
  refine ⟨?_, Nat.le_refl _, ?_⟩
  · show decide (i.natAbs.log2 < 1920) = true
    refine decide_eq_true ?_
    by_cases h0 : i.natAbs = 0
    · rw [h0]; decide
    · refine (Nat.log2_lt h0).mpr ?_
      have h1 : (10 : Nat) ^ k ≤ 10 ^ 500 := Nat.pow_le_pow_right (by decide) hk2
      have h2 : (10 : Nat) ^ 500 ≤ 2 ^ 1920 := by decide +kernel
      omega
  · show (Str.ofString (toString i)).length ≤ k + 1
    rw [ofString_length]
    exact int_text_length_le10 hk h
theorem sh_nat {n : Nat} (h : n < 10 ^ 9) : Sh 10 0 (.int (n : Int)) := sh_int (k := 9) (by decide) (by decide) (by omega)
theorem shAll {b e : Nat} : ∀ {l : List PyData}, (∀ d ∈ l, Sh b e d) → PyData.showableAll l = true ∧ PyData.depthAll l ≤ e ∧ ((PyData.shownAll l).map (·.length)).sum ≤ l.length * b ∧ (PyData.shownAll l).length = l.length
  | [], _ => ⟨rfl, Nat.zero_le _, Nat.le_of_eq (by simp [PyData.shownAll]), rfl⟩
  | d :: l, h => by
    obtain ⟨h1, h2, h3⟩ := h d List.mem_cons_self
    obtain ⟨g1, g2, g3, g4⟩ := shAll (l := l) fun x hx => h x (List.mem_cons_of_mem _ hx)
    refine ⟨?_, ?_, ?_, ?_⟩
    · show (PyData.showable d && PyData.showableAll l) = true
      rw [h1, g1]; rfl
    · exact Nat.max_le.mpr ⟨h2, g2⟩
    · show d.shown.length + ((PyData.shownAll l).map (·.length)).sum ≤ (l.length + 1) * b
      rw [Nat.succ_mul]
      omega
    · show (PyData.shownAll l).length + 1 = l.length + 1
      rw [g4]
theorem sh_tup {b e : Nat} {l : List PyData} (h : ∀ d ∈ l, Sh b e d) : Sh (l.length * (b + 2) + 3) (e + 1) (.tuple l) := by
  obtain ⟨g1, g2, g3, g4⟩ := shAll h
  refine ⟨g1, Nat.succ_le_succ g2, ?_⟩
  have := tupleText_len_le (PyData.shownAll l)
  show (tupleText (PyData.shownAll l)).length ≤ _
  rw [g4] at this
  rw [Nat.mul_add]
  omega
theorem sh_lst {b e : Nat} {l : List PyData} (h : ∀ d ∈ l, Sh b e d) : Sh (l.length * (b + 2) + 3) (e + 1) (.list l) := by
  obtain ⟨g1, g2, g3, g4⟩ := shAll h
  refine ⟨g1, Nat.succ_le_succ g2, ?_⟩
  have := listText_len_le (PyData.shownAll l)
  show (listText (PyData.shownAll l)).length ≤ _
  rw [g4] at this
  rw [Nat.mul_add]
  omega
theorem sh_row {d : PyData} (h : LR d) : Sh 100 3 d := by
  obtain ⟨⟨x, ds, e, hd⟩, _, h2, h3⟩ := h
  refine ⟨h2, ?_, h3⟩
  rw [e]
  exact (okD_can _ _ hd).2
theorem sh_rows {l : List PyData} (h : ∀ d ∈ l, LR d) (hl : l.length ≤ 100) : Sh 10300 4 (.tuple l) := (sh_tup fun d hd => sh_row (h d hd)).mono (by have := Nat.mul_le_mul_right 102 hl; omega) (Nat.le_refl _)
theorem sh_octs {l : List Nat} (h : ∀ x ∈ l, x < 256) (hl : l.length ≤ 10000) : Sh 120003 1 (.tuple (l.map fun (x : Nat) => PyData.int (x : Int))) := by
  refine (sh_tup (b := 10) (e := 0) fun d hd => ?_).mono (by rw [List.length_map]; omega) (Nat.le_refl _)
  obtain ⟨x, hx, rfl⟩ := List.mem_map.mp hd
  exact sh_nat (by have := h x hx; omega)
end K53

set_option Elab.async false
set_option linter.all false
set_option maxRecDepth 100000
set_option maxHeartbeats 4000000
/-! the law's own helpers: the box, what is drawn -/
namespace K53
open PySem PySem.Spec PyProof.Rows L2
def Bx (b : Addr) (H : Hp) : Prop := ∃ g s : Int, H b = some (.lst [.int g, .int s])
def spBox (K : PySem.W.Frag) : Sp := fun vs H Q _ => ∃ (a : Addr) (ns : List Int) (k : Nat), vs = [.ref a, .int (k : Int)] ∧ k < 3 ∧ SqL K H a (ns.map V.int) ∧ ns.length ≤ 63 ∧ ∀ p H', Same H H' → H p = none → Bx p H' → Q (.ref p) H'
def spTakeL : Sp := fun vs H Q _ => ∃ (b : Addr) (m : Nat), vs = [.ref b, .int (m : Int)] ∧ Bx b H ∧ 0 < m ∧ m ≤ 1000000 ∧ ∀ (n : Nat) H', n < m → Sx (· = b) H H' → Bx b H' → Q (.int (n : Int)) H'
def spPick : Sp := fun vs H Q _ => ∃ (b l : Addr) (xs : List V), vs = [.ref b, .ref l] ∧ Bx b H ∧ H l = some (.lst xs) ∧ l ≠ b ∧ 0 < xs.length ∧ xs.length ≤ 1000 ∧ ∀ (n : Nat) v H', xs[n]? = some v → Sx (· = b) H H' → Bx b H' → Q v H'
def spLNum : Sp := spNum
section
variable {P : Program} {w : World} {K : PySem.W.Frag} {mg : Str → Option Value} {base : Heap}
theorem ok__law_box (T : Tx P K mg) : Has P w K mg base CX0 1 (He.ga K "_law_box") p__law_box (spBox K) := by
  obtain ⟨fd, F, b⟩ := T.d__law_box
  refine ⟨fd, F.ok sc__law_box (fun vs H Q E ⟨a, ns, k, e, _⟩ => by rw [e]; rfl) (fun cdv A outer s H vs Q E hr h => ?_), b⟩
  obtain ⟨a, ns, k, rfl, hk, ha, hl, kk⟩ := h
  refine ⟨_, PSs.nox (pss_cons (ps_set (i := 2) sc__law_box.nd rfl (Or.inl rfl) (pe_op op_add (pe_op op_mul pe_int (pv 1)) pe_int))
      (pss_cons (ps_if (pt_cmpR op_lt (pv 1) (pe_callB call_len_seq rfl T.f_len boot_len (pa_cons (pv 0) pa_nil)) (nomark _)) (pss_one (ps_set (i := 2) sc__law_box.nd rfl (Or.inl rfl) (pe_callB call_abs rfl T.f_abs boot_abs (pa_cons (pe_callTy call_int1 rfl T.f_int boot_int (pa_cons (pe_ix ix_list (pv 0) (pv 1) (fun _ _ => rfl)) pa_nil)) pa_nil)))) (pss_one (ps_if (pt_cmpR op_gt (pe_callB call_len_seq rfl T.f_len boot_len (pa_cons (pv 0) pa_nil)) pe_int (nomark _)) (pss_one (ps_set (i := 2) sc__law_box.nd rfl (Or.inl rfl) (pe_op op_add (pv 2) (pe_op op_mul (pe_op op_mod (pe_callTy call_int1 rfl T.f_int boot_int (pa_cons (pe_callB call_abs rfl T.f_abs boot_abs (pa_cons (pe_callTy call_int1 rfl T.f_int boot_int (pa_cons (pe_ix ix_list (pv 0) (pe_op op_mod (pe_callTy call_int1 rfl T.f_int boot_int (pa_cons (pv 1) pa_nil)) (pe_callB call_len_seq rfl T.f_len boot_len (pa_cons (pv 0) pa_nil))) (fun _ _ => rfl)) pa_nil)) pa_nil)) pa_nil)) pe_int) pe_int)))) pss_nil)))
      (pss_cons (ps_set (i := 3) sc__law_box.nd rfl (Or.inl rfl) (pe_ifExp (pt_cmpR op_ge (pv 2) (pe_op op_pow pe_int pe_int) (nomark _)) (pv 2) pe_int))
      (pss_one (ps_ret (pe_lst (pa_cons (pv 3) (pa_cons (pe_op op_add (pe_op op_mod (pe_callTy call_int1 rfl T.f_int boot_int (pa_cons (pe_op op_add (pe_op op_mul (pe_op op_mod (pe_callTy call_int1 rfl T.f_int boot_int (pa_cons (pv 2) pa_nil)) pe_int) pe_int) (pe_op op_mul pe_int (pv 1))) pa_nil)) pe_int) pe_int) pa_nil)))))))), ?_⟩
  have hsm : CMul 7649 (k : Int) := .inl ⟨by decide, by decide⟩
  -- the end, whatever the cell is
  have fin : ∀ (c : Int), tSeq (tAsg (tIf (tTest (tOp (rI0 fun i j => .bl (decide (j ≤ i))) (tVar 2) (tOp (rI CPow fun i j => .int (i ^ j.toNat)) (tC (.int 10)) (tC (.int 18))))) (tVar 2) (tC (.int 0))) (gName 3))
      (tRet (tLst (tCons (tVar 3) (tCons (tOp (rI0 fun i j => .int (i + j)) (tOp (rI (fun _ j => 0 < j) fun i j => .int (i % j)) (tCB (fun xs H Q => (∃ i, xs = [.int i] ∧ Q (.int i) H) ∨ ∃ k, xs = [.bl k] ∧ Q (.int (if k then 1 else 0)) H) (tCons (tOp (rI0 fun i j => .int (i + j)) (tOp (rI CMul fun i j => .int (i * j)) (tOp (rI (fun _ j => 0 < j) fun i j => .int (i % j)) (tCB (fun xs H Q => (∃ i, xs = [.int i] ∧ Q (.int i) H) ∨ ∃ k, xs = [.bl k] ∧ Q (.int (if k then 1 else 0)) H) (tCons (tVar 2) tNil)) (tC (.int 2147483587))) (tC (.int 70003))) (tOp (rI CMul fun i j => .int (i * j)) (tC (.int 1423)) (tVar 1))) tNil)) (tC (.int 2147483587))) (tC (.int 1))) tNil)))) { nx := fun _ H' => Q .non H', rt := Q } [some (.ref a), some (.int (k : Int)), some (.int c), none] H := by
    intro c
    have last : ∀ g : Int, (tRet (tLst (tCons (tVar 3) (tCons (tOp (rI0 fun i j => .int (i + j)) (tOp (rI (fun _ j => 0 < j) fun i j => .int (i % j)) (tCB (fun xs H Q => (∃ i, xs = [.int i] ∧ Q (.int i) H) ∨ ∃ k, xs = [.bl k] ∧ Q (.int (if k then 1 else 0)) H) (tCons (tOp (rI0 fun i j => .int (i + j)) (tOp (rI CMul fun i j => .int (i * j)) (tOp (rI (fun _ j => 0 < j) fun i j => .int (i % j)) (tCB (fun xs H Q => (∃ i, xs = [.int i] ∧ Q (.int i) H) ∨ ∃ k, xs = [.bl k] ∧ Q (.int (if k then 1 else 0)) H) (tCons (tVar 2) tNil)) (tC (.int 2147483587))) (tC (.int 70003))) (tOp (rI CMul fun i j => .int (i * j)) (tC (.int 1423)) (tVar 1))) tNil)) (tC (.int 2147483587))) (tC (.int 1))) tNil)))) { nx := fun _ H' => Q .non H', rt := Q } [some (.ref a), some (.int (k : Int)), some (.int c), some (.int g)] H := by
      intro g
      refine ⟨_, rfl, _, rfl, .inl ⟨c, rfl, _, _, rfl, rfl, (show (0 : Int) < 2147483587 by decide), _, _, rfl, rfl, .inr ⟨by decide, by decide⟩, _, rfl, _, _, rfl, rfl, .inl ⟨by decide, by decide⟩, _, _, rfl, rfl, .inl ⟨_, rfl, _, _, rfl, rfl, (show (0 : Int) < 2147483587 by decide), _, _, rfl, rfl, sz2, fun p hp => kk p _ (same_upd hp) hp ⟨_, _, upd_same⟩⟩⟩⟩
    refine ⟨_, rfl, _, _, rfl, rfl, ⟨by decide, by decide, by decide⟩, _, _, rfl, rfl, _, rfl, ?_⟩
    by_cases hc : (10 : Int) ^ (18 : Int).toNat ≤ c
    · rw [decide_eq_true hc]
      exact iteT ⟨_, rfl, last c⟩
    · rw [decide_eq_false hc]
      exact iteF (last 0)
  refine ⟨_, rfl, _, _, rfl, rfl, hsm, _, _, rfl, rfl, _, rfl, _, rfl, a, _, rfl, .inl ha, _, _, rfl, rfl, _, rfl, ?_⟩
  rw [List.length_map]
  by_cases hkl : k < ns.length
  · rw [decide_eq_true (by omega)]
    have hat : atI (ns.map V.int) (k : Int) = some (.int ns[k]) := atI_nat (by rw [List.getElem?_map, List.getElem?_eq_getElem hkl]; rfl)
    exact iteT ⟨_, rfl, _, rfl, a, _, _, _, rfl, rfl, ha, hat, .inl ⟨_, rfl, _, rfl, fin _⟩⟩
  · rw [decide_eq_false (by omega)]
    refine iteF ⟨_, rfl, a, _, rfl, .inl ha, _, _, rfl, rfl, _, rfl, ?_⟩
    rw [List.length_map]
    by_cases h0 : 0 < ns.length
    · rw [decide_eq_true (by omega)]
      have hm : k % ns.length < ns.length := Nat.mod_lt _ h0
      have hat : atI (ns.map V.int) ((k : Int) % (ns.length : Int)) = some (.int ns[k % ns.length]) := by
        rw [← Int.natCast_emod]
        exact atI_nat (by rw [List.getElem?_map, List.getElem?_eq_getElem hm]; rfl)
      refine iteT ⟨_, rfl, _, rfl, _, rfl, .inl ⟨_, rfl, _, rfl, a, _, rfl, .inl ha, _, _, rfl, rfl, ?_⟩⟩
      rw [List.length_map]
      exact ⟨by omega, a, _, _, _, rfl, rfl, ha, hat, .inl ⟨_, rfl, _, rfl, .inl ⟨_, rfl, _, _, rfl, rfl, (show (0 : Int) < 2147483587 by decide), _, _, rfl, rfl, .inr ⟨by decide, by decide⟩, _, _, rfl, rfl, fin _⟩⟩⟩
    · rw [decide_eq_false (by omega)]
      exact iteF (fin _)
theorem ok__law_take (T : Tx P K mg) : Has P w K mg base CX0 1 (He.ga K "_law_take") p__law_take spTakeL := by
  obtain ⟨fd, F, b⟩ := T.d__law_take
  refine ⟨fd, F.ok sc__law_take (fun vs H Q E ⟨b, m, e, _⟩ => by rw [e]; rfl) (fun cdv A outer s H vs Q E hr h => ?_), b⟩
  obtain ⟨b, m, rfl, ⟨g, z, hb⟩, hm, hm2, k⟩ := h
  refine ⟨_, PSs.nox (pss_cons (ps_if (pt_cmpR op_gt (pe_ix ix_list (pv 0) pe_int (fun _ _ => rfl)) pe_int (nomark _)) (pss_cons (ps_set (i := 2) sc__law_take.nd rfl (Or.inl rfl) (pe_op op_mod (pe_callTy call_int1 rfl T.f_int boot_int (pa_cons (pe_ix ix_list (pv 0) pe_int (fun _ _ => rfl)) pa_nil)) (pv 1)))
      (pss_cons (ps_asg (pe_op op_fdivW (pe_ix ix_list (pv 0) pe_int (fun _ _ => rfl)) (pv 1)) (pg_sub (pv 0) pe_int set_list))
      (pss_one (ps_ret (pv 2))))) pss_nil)
      (pss_cons (ps_set (i := 3) sc__law_take.nd rfl (Or.inl rfl) (pe_op op_mod (pe_callTy call_int1 rfl T.f_int boot_int (pa_cons (pe_op op_add (pe_op op_mul (pe_ix ix_list (pv 0) pe_int (fun _ _ => rfl)) pe_int) pe_int) pa_nil)) pe_int))
      (pss_cons (ps_asg (pe_op op_add (pe_op op_mod (pe_callTy call_int1 rfl T.f_int boot_int (pa_cons (pe_op op_add (pe_op op_mul (pv 3) pe_int) pe_int) pa_nil)) pe_int) pe_int) (pg_sub (pv 0) pe_int set_list))
      (pss_one (ps_ret (pe_op op_mod (pe_callTy call_int1 rfl T.f_int boot_int (pa_cons (pe_op op_fdivW (pe_op op_add (pe_op op_mul (pv 3) pe_int) (pe_ix ix_list (pv 0) pe_int (fun _ _ => rfl))) pe_int) pa_nil)) (pv 1))))))), ?_⟩
  have hmi : (0 : Int) < (m : Int) := by omega
  have hdw : ∀ i : Int, CDivW i (m : Int) := fun i => wide_div (b := 20) hmi (by omega) (by decide) (by decide)
  have digit : ∀ (x : Int) (H' : Hp), Sx (· = b) H H' → Bx b H' → Q (.int (x % (m : Int))) H' := fun x H' s1 hb' => by
    have h1 := Int.emod_nonneg x (show (m : Int) ≠ 0 by omega)
    have h2 := Int.emod_lt_of_pos x hmi
    have e : x % (m : Int) = (((x % (m : Int)).toNat : Nat) : Int) := by omega
    rw [e]
    exact k _ H' (by omega) s1 hb'
  have at1 : ∀ x y : V, atI [x, y] 1 = some y := fun x y => rfl
  refine ⟨_, rfl, b, _, _, _, rfl, rfl, SqL.of hb, at0, _, _, rfl, rfl, _, rfl, ?_⟩
  by_cases hg : 0 < g
  · rw [decide_eq_true hg]
    refine iteT ⟨_, rfl, b, _, _, _, rfl, rfl, SqL.of hb, at0, .inl ⟨_, rfl, _, rfl, _, _, rfl, rfl, hmi, ?_⟩⟩
    refine ⟨_, rfl, b, _, _, _, rfl, rfl, SqL.of hb, at0, _, rfl, _, _, rfl, rfl, hdw _, _, rfl, b, _, _, 0, rfl, rfl, hb, rfl, ?_⟩
    exact ⟨_, rfl, digit g _ sx_put ⟨_, z, upd_same⟩⟩
  · rw [decide_eq_false hg]
    refine iteF ⟨_, rfl, b, _, _, _, rfl, rfl, SqL.of hb, at1 _ _, _, _, rfl, rfl, .inr ⟨by decide, by decide⟩, _, _, rfl, rfl, .inl ⟨_, rfl, _, _, rfl, rfl, (show (0 : Int) < 2147483399 by decide), ?_⟩⟩
    refine ⟨_, rfl, _, _, rfl, rfl, .inr ⟨by decide, by decide⟩, _, _, rfl, rfl, .inl ⟨_, rfl, _, _, rfl, rfl, (show (0 : Int) < 2147483587 by decide), _, _, rfl, rfl, _, rfl, b, _, _, 1, rfl, rfl, hb, rfl, ?_⟩⟩
    refine ⟨_, rfl, _, _, rfl, rfl, .inr ⟨by decide, by decide⟩, _, rfl, b, _, _, _, rfl, rfl, SqL.of upd_same, at1 _ _, _, _, rfl, rfl, _, _, rfl, rfl, ⟨by decide, by decide +kernel⟩, .inl ⟨_, rfl, _, rfl, _, _, rfl, rfl, hmi, ?_⟩⟩
    exact digit _ _ sx_put ⟨g, _, upd_same⟩
theorem ok__law_pick (T : Tx P K mg) : Has P w K mg base CX0 2 (He.ga K "_law_pick") p__law_pick spPick := by
  obtain ⟨_, G__law_take, b__law_take⟩ := ok__law_take (w := w) (base := base) T
  obtain ⟨fd, F, b⟩ := T.d__law_pick
  refine ⟨fd, F.ok sc__law_pick (fun vs H Q E ⟨b, l, xs, e, _⟩ => by rw [e]; rfl) (fun cdv A outer s H vs Q E hr h => ?_), b⟩
  obtain ⟨b, l, xs, rfl, hb, hl, hne, h0, h1, k⟩ := h
  refine ⟨_, PSs.nox (pss_one (ps_ret (pe_ix ix_list (pv 1) (pe_call G__law_take (hr.mono (by decide)) rfl T.g__law_take T.kp__law_take b__law_take .nil pass0 (pa_cons (pv 0) (pa_cons (pe_callB call_len_seq rfl T.f_len boot_len (pa_cons (pv 1) pa_nil)) pa_nil))) (fun _ _ => rfl)))), ?_⟩
  refine ⟨_, rfl, _, rfl, _, rfl, l, xs, rfl, .inl (SqL.of hl), b, xs.length, rfl, hb, h0, by omega, fun n H1 hn s1 hb1 => ?_⟩
  exact ⟨l, xs, _, xs[n], rfl, rfl, SqL.of (s1 _ _ hne hl), atI_nat (List.getElem?_eq_getElem hn), k n xs[n] H1 (List.getElem?_eq_getElem hn) s1 hb1⟩
end
end K53

set_option Elab.async false
set_option linter.all false
set_option maxRecDepth 100000
set_option maxHeartbeats 4000000
/-! the law's own forms -/
namespace K53
open PySem PySem.Spec PyProof.Rows L2
def spLForm (n : Nat) : Sp := spWr n
def spLPage : Sp := fun vs H Q _ => ∃ (t m : Nat) (l : Addr) (xs : List V) (rows : List PyData), vs = [.int (t : Int), .int (m : Int), .ref l] ∧ H l = some (.lst xs) ∧ RpAll H xs rows ∧ okAll rows 3 = true ∧ t < 256 ^ 8 ∧ m < 256 ^ 8 ∧ (pageO t m rows).length ≤ 16777216 ∧ RT (nts (pageO t m rows)) H Q
def spLens : Sp := fun vs H Q _ => ∃ (l : Addr) (xs : List V) (W : List PyData), vs = [.ref l] ∧ H l = some (.lst xs) ∧ RpAll H xs W ∧ okAll W 3 = true ∧ W.length ≤ 1000 ∧ ∀ p H', Same H H' → H' p = some (.lst (nts (lens W))) → Q (.ref p) H'
def wN (l : List Nat) (o : Int) : Nat := if 0 ≤ o then nF l o.toNat else 0
def spWhole : Sp := fun vs H Q _ => ∃ (l : Addr) (ls : List Nat) (o : Int), vs = [.ref l, .int o] ∧ H l = some (.lst (nts ls)) ∧ Q (.int (wN ls o : Int)) H
theorem wN_cons (x : Nat) (l : List Nat) (o : Int) : wN (x :: l) o = (if 0 ≤ o - x then 1 else 0) + wN l (o - x) := by
  unfold wN
  by_cases h : 0 ≤ o - x
  · rw [if_pos h, if_pos h, if_pos (by omega)]
    show (if x ≤ o.toNat then 1 + nF l (o.toNat - x) else 0) = _
    rw [if_pos (by omega)]
    congr 2
    omega
  · rw [if_neg h, if_neg h]
    by_cases h0 : 0 ≤ o
    · rw [if_pos h0]
      show (if x ≤ o.toNat then 1 + nF l (o.toNat - x) else 0) = _
      rw [if_neg (by omega)]
    · rw [if_neg h0]
section
variable {P : Program} {w : World} {K : PySem.W.Frag} {mg : Str → Option Value} {base : Heap}
theorem ok__law_number (T : Tx P K mg) : Has P w K mg base CX0 1 (He.ga K "_law_number") p__law_number spLNum := by
  obtain ⟨fd, F, b⟩ := T.d__law_number
  refine ⟨fd, F.ok sc__law_number (fun vs H Q E ⟨n, e, _⟩ => by rw [e]; rfl) (fun cdv A outer s H vs Q E hr h => ?_), b⟩
  obtain ⟨n, rfl, hn, k⟩ := h
  refine ⟨_, PSs.nox (pss_cons (ps_set (i := 1) sc__law_number.nd rfl (Or.inl rfl) (pe_lst pa_nil))
      (pss_cons (ps_for PassesOwn.never rfl (pi_range1 rfl T.f_range (pa_cons pe_int pa_nil)) (pg_name (i := 2) sc__law_number.nd rfl (Or.inl rfl)) (pss_one (ps_if (pt_cmpR op_gt (pv 0) pe_int (nomark _)) (pss_one (ps_par (i := 1) (j := 0) rfl sc__law_number.nd rfl rfl (by decide) rfl rfl (pa_cons (pe_op op_cat (pe_lst (pa_cons (pe_op op_mod (pe_callTy call_int1 rfl T.f_int boot_int (pa_cons (pv 0) pa_nil)) pe_int) pa_nil)) (pv 1)) (pa_cons (pe_op op_fdivW (pv 0) pe_int) pa_nil)) rfl)) pss_nil)))
      (pss_one (ps_ret (pe_callTy call_tof rfl T.f_tuple boot_tuple (pa_cons (pe_op op_cat (pe_lst (pa_cons (pe_callB call_len_seq rfl T.f_len boot_len (pa_cons (pv 1) pa_nil)) pa_nil)) (pv 1)) pa_nil)))))), ?_⟩
  refine ⟨Nat.zero_le _, fun f0 hf0 => ⟨_, rfl, (by decide), (by decide), ?_⟩⟩
  refine for_range (lo := 0) (n := 300) (fun j σ' H' => ∃ (m : Nat) (f : Addr) (acc : List Nat) (u : Option V), σ' = [some (.int (m : Int)), some (.ref f), u] ∧ Same H H' ∧ H' f = some (.lst (nts acc)) ∧ figs n = figs m ++ acc ∧ m < 256 ^ (8 - j)) ⟨n, f0, [], none, rfl, same_upd hf0, upd_same, by simp, hn⟩ ?_ ?_
  · rintro j σ' H' hj ⟨m, f, acc, u, rfl, s1, h1, hf, hm⟩
    refine ⟨_, rfl, _, _, rfl, rfl, _, rfl, ?_⟩
    by_cases h0 : m = 0
    · subst h0
      rw [decide_eq_false (by simp)]
      exact iteF ⟨0, f, acc, _, rfl, s1, h1, hf, Nat.pow_pos (by decide)⟩
    · rw [decide_eq_true (by omega)]
      have h8 : acc.length ≤ 8 := by
        have := figs_len hn
        rw [hf, List.length_append] at this
        omega
      have hj8 : j < 8 := by
        by_cases z : j < 8
        · exact z
        · rw [show 8 - j = 0 by omega, Nat.pow_zero] at hm
          omega
      refine iteT ⟨_, rfl, .inl ⟨_, rfl, _, _, rfl, rfl, (show (0 : Int) < 256 by decide), sz1, fun l1 hl1 => ?_⟩⟩
      refine ⟨_, rfl, l1, f, _, _, rfl, rfl, upd_same, same_upd hl1 _ _ h1, by rw [nts_len]; exact sz16 (by show 1 + acc.length ≤ 16777216; omega), fun l2 hl2 => ?_⟩
      have s2 := (same_upd hl1 (o := .lst [.int ((m : Int) % 256)])).trans (same_upd hl2 (o := .lst ([.int ((m : Int) % 256)] ++ nts acc)))
      refine ⟨_, rfl, _, _, rfl, rfl, ⟨by decide, by decide⟩, _, _, rfl, m / 256, l2, m % 256 :: acc, _, rfl, s1.trans s2, upd_same, ?_, ?_⟩
      · rw [hf, figs_pos h0, List.append_assoc]
        rfl
      · rw [Nat.div_lt_iff_lt_mul (by decide), ← Nat.pow_succ]
        have : (8 - (j + 1)).succ = 8 - j := by omega
        rw [this]
        exact hm
  · rintro σ' H' ⟨m, f, acc, u, rfl, s1, h1, hf, hm⟩
    have hm0 : m = 0 := by
      rw [show 8 - 300 = 0 from rfl, Nat.pow_zero] at hm
      omega
    subst hm0
    rw [figs_zero, List.nil_append] at hf
    subst hf
    have hl := figs_len hn
    refine ⟨_, rfl, f, _, rfl, .inl (SqL.of h1), sz1, fun l1 hl1 => ⟨_, rfl, l1, f, _, _, rfl, rfl, upd_same, same_upd hl1 _ _ h1, ?_, fun l2 hl2 => ?_⟩⟩
    · rw [nts_len]; exact sz16 (by show 1 + (figs n).length ≤ 16777216; omega)
    · have e : [V.int ((nts (figs n)).length : Int)] ++ nts (figs n) = nts (numF n) := by rw [nts_len]; rfl
      rw [e]
      exact ⟨l2, _, rfl, .inl upd_same, k.of_same ((s1.trans (same_upd hl1)).trans (same_upd hl2))⟩
theorem ok__law_form (T : Tx P K mg) : ∀ n : Nat, Has P w K mg base CX0 (n + 3) (He.ga K "_law_form") p__law_form (spLForm n)
  | 0 => by
    obtain ⟨fd, F, b⟩ := T.d__law_form
    exact ⟨fd, F.ok sc__law_form (fun vs H Q E ⟨v, e, _⟩ => by rw [e]; rfl) (fun cdv A outer s H vs Q E hr ⟨v, e, d, m, _, _, h, _⟩ => absurd h (Nat.not_lt_zero _)), b⟩
  | n + 1 => by
    obtain ⟨_, G__law_number, b__law_number⟩ := ok__law_number (w := w) (base := base) T
    obtain ⟨_, G__law_form, b__law_form⟩ := ok__law_form T n
    obtain ⟨fd, F, b⟩ := T.d__law_form
    refine ⟨fd, F.ok sc__law_form (fun vs H Q E ⟨v, e, _⟩ => by rw [e]; rfl) (fun cdv A outer s H vs Q E hr h => ?_), b⟩
    obtain ⟨v, rfl, d, m, hv, hd, hm, hm3, k⟩ := h
    obtain ⟨hfl, _⟩ := form_ok d m hd
    have hfl : (form d).length ≤ 625000 := Nat.le_trans hfl (Nat.mul_le_mul_left 40 (Nat.pow_le_pow_right (by decide) hm3))
    refine ⟨_, PSs.nox (pss_cons (ps_if (pt_cmpR op_isN (pv 0) pe_non (nomark _)) (pss_one (ps_ret (pe_tup (pa_cons pe_int pa_nil)))) pss_nil)
      (pss_cons (ps_if (pt_val (pe_callB call_isi rfl T.f_isinstance boot_isinstance (pa_cons (pv 0) (pa_cons (pe_gt T.f_int boot_int) pa_nil)))) (pss_one (ps_ret (pe_ifExp (pt_cmpR op_ge (pv 0) pe_int (nomark _)) (pe_op op_catA (pe_tup (pa_cons pe_int pa_nil)) (pe_call G__law_number (hr.mono (by omega)) rfl T.g__law_number T.kp__law_number b__law_number .nil pass0 (pa_cons (pv 0) pa_nil))) (pe_op op_catA (pe_tup (pa_cons pe_int pa_nil)) (pe_call G__law_number (hr.mono (by omega)) rfl T.g__law_number T.kp__law_number b__law_number .nil pass0 (pa_cons (pe_op op_sub (pe_op op_sub pe_int pe_int) (pv 0)) pa_nil)))))) pss_nil)
      (pss_cons (ps_if (pt_val (pe_callB call_isi rfl T.f_isinstance boot_isinstance (pa_cons (pv 0) (pa_cons (pe_gt T.f_str boot_str) pa_nil)))) (pss_one (ps_ret (pe_op op_catA (pe_op op_catA (pe_tup (pa_cons pe_int pa_nil)) (pe_call G__law_number (hr.mono (by omega)) rfl T.g__law_number T.kp__law_number b__law_number .nil pass0 (pa_cons (pe_callB call_len_str rfl T.f_len boot_len (pa_cons (pv 0) pa_nil)) pa_nil))) (pe_callTy call_tuple_of rfl T.f_tuple boot_tuple (pa_cons (pe_lc (own := [("_law_sign", 3)]) rfl sc__law_form.nd (pi_str (pv 0)) (blkOk_by (N := n__law_form) (sc := defScope s__law_form) (by decide +kernel)) (fun _ _ _ _ _ => (pg_name (i := 3) sc__law_form.nd rfl (Or.inl rfl))) (fun _ _ _ _ _ => pts_nil) (fun _ _ _ _ _ => (pe_m1 PySem.F.slot_str_index PySem.F.type_str_index mt_sindex pe_str (pv 3)))) pa_nil))))) pss_nil)
      (pss_cons (ps_set (i := 1) sc__law_form.nd rfl (Or.inl rfl) (pe_op op_catA (pe_tup (pa_cons pe_int pa_nil)) (pe_call G__law_number (hr.mono (by omega)) rfl T.g__law_number T.kp__law_number b__law_number .nil pass0 (pa_cons (pe_callB call_len_seq rfl T.f_len boot_len (pa_cons (pv 0) pa_nil)) pa_nil))))
      (pss_cons (ps_for PassesOwn.never rfl (pi_tup (pv 0)) (pg_name (i := 2) sc__law_form.nd rfl (Or.inl rfl)) (pss_one (ps_set (i := 1) sc__law_form.nd rfl (Or.inl rfl) (pe_op op_catA (pv 1) (pe_call G__law_form (hr.mono (by omega)) rfl T.g__law_form T.kp__law_form b__law_form .nil pass0 (pa_cons (pv 2) pa_nil))))))
      (pss_one (ps_ret (pv 1)))))))), ?_⟩
    obtain ⟨ty, t1, t2, _, t4, _⟩ := hv.smp.isi (K := K)
    have t1 := t1 H (Same.refl _)
    cases hv with
    | non => exact ⟨_, rfl, rfl, _, rfl, iteT ⟨sz1, fun p hp => k p _ (same_upd hp) upd_same⟩⟩
    | int i =>
      have hi : i.natAbs < 256 ^ 8 := by simpa [okD] using hd
      refine ⟨_, rfl, rfl, _, rfl, iteF ⟨_, rfl, _, _, ty, _, _, rfl, .ty _, t1, t2, _, rfl, iteT ⟨_, rfl, _, _, rfl, rfl, _, rfl, ?_⟩⟩⟩
      by_cases h0 : 0 ≤ i
      · rw [decide_eq_true h0]
        obtain ⟨z, rfl⟩ : ∃ z : Nat, i = (z : Int) := ⟨i.toNat, by omega⟩
        have hz : z < 256 ^ 8 := by omega
        refine iteT ⟨sz1, fun p hp => ⟨_, rfl, z, rfl, hz, fun q H1 s1 h1 => ?_⟩⟩
        refine cat_of (s1 _ _ upd_same) h1 (by rw [nts_len]; exact sz16 (by have := numF_len hz; simp; omega)) ?_
        have e : [V.int 1] ++ nts (numF z) = nts (form (.int (z : Int))) := by
          unfold form
          rw [if_pos h0]
          rfl
        rw [e]
        exact k.of_same ((same_upd hp).trans s1)
      · rw [decide_eq_false h0]
        obtain ⟨z, hz0⟩ : ∃ z : Nat, -1 - i = (z : Int) := ⟨(-1 - i).toNat, by omega⟩
        have hz : z < 256 ^ 8 := by omega
        refine iteF ⟨sz1, fun p hp => ⟨_, _, rfl, rfl, _, rfl, _, _, rfl, rfl, z, (by show [V.int (0 - 1 - i)] = [V.int (z : Int)]; rw [← hz0]; rfl), hz, fun q H1 s1 h1 => ?_⟩⟩
        refine cat_of (s1 _ _ upd_same) h1 (by rw [nts_len]; exact sz16 (by have := numF_len hz; simp; omega)) ?_
        have e : [V.int 2] ++ nts (numF z) = nts (form (.int i)) := by
          unfold form
          rw [if_neg h0, hz0]
          rfl
        rw [e]
        exact k.of_same ((same_upd hp).trans s1)
    | str x =>
      have hx : x.length ≤ 20 ∧ ∀ c ∈ x.cps.toList, sg.contains c = true := by
        simpa only [okD, Bool.and_eq_true, decide_eq_true_eq, List.all_eq_true] using hd
      have hx8 : x.length < 256 ^ 8 := by omega
      have hxl := str_len x
      refine ⟨_, rfl, rfl, _, rfl, iteF ⟨_, rfl, _, _, ty, _, _, rfl, .ty _, t1, t2, _, rfl, iteF ⟨_, rfl, _, _, ty, _, _, rfl, .ty _, t1, t4, _, rfl, iteT ?_⟩⟩⟩
      refine ⟨sz1, fun p hp => ⟨_, rfl, x, rfl, sz16 (by omega), x.length, rfl, hx8, fun q H1 s1 h1 => ?_⟩⟩
      have hnl := numF_len (n := x.length) (k := 1) (by omega)
      refine cat_of (s1 _ _ upd_same) h1 (by rw [nts_len]; exact sz16 (by simp; omega)) fun q2 H2 s2 h2 => ?_
      have hH2 : Same H H2 := ((same_upd hp).trans s1).trans s2
      refine cb1 (lc_sgn (z := x) (fun _ => False) rfl no_ex (Nat.lt_of_lt_of_le (show x.length < 16777216 by omega) (sz16 (Nat.le_refl _))) (fun j acc _ => acc = nts ((x.cps.toList.take j).map idx)) (fun _ _ => rfl) (fun _ _ _ _ _ _ _ _ e => e) ?_ ?_)
      · rintro j c acc H3 hc s3 hl3 ea Q1 hq
        obtain ⟨rest, hr⟩ := sg_at (hx.2 c (List.mem_of_getElem? hc))
        refine ⟨⟨_, rfl⟩, _, rfl, sgS, ⟨#[c]⟩, idx c, rest, rfl, rfl, hr, ?_⟩
        exact hq _ _ (Sx.refl _ _) (by rw [take_snoc hc, List.map_append, nts_append, ea]; rfl)
      · rintro D acc H3 hl3 s3 hD ea
        rw [List.take_of_length_le (by omega)] at ea
        refine ⟨D, acc, rfl, .inl ⟨SqL.of hD, fun p3 hp3 => ?_⟩⟩
        have s4 : Same H2 (upd H3 p3 (.tup acc)) := s3.same.trans (same_upd hp3)
        refine cat_of (s4 _ _ h2) upd_same ?_ ?_
        · rw [hl3]; exact sz16 (by rw [List.length_append, nts_len]; simp; omega)
        · have e : [V.int 3] ++ nts (numF x.length) ++ acc = nts (form (.str x)) := by
            rw [ea, form_str]
            show _ = nts ([3] ++ (numF x.length ++ _))
            rw [nts_append, nts_append, List.append_assoc]
            rfl
          rw [e]
          exact k.of_same (hH2.trans s4)
    | @tup a xs ds e r =>
      cases m with
      | zero => simp [okD] at hd
      | succ m' =>
      have hd' : ds.length ≤ 20 ∧ okAll ds m' = true := by simpa [okD] using hd
      have hl := r.len
      have hx8 : xs.length < 256 ^ 8 := by omega
      refine ⟨_, rfl, rfl, _, rfl, iteF ⟨_, rfl, _, _, ty, _, _, rfl, .ty _, t1, t2, _, rfl, iteF ⟨_, rfl, _, _, ty, _, _, rfl, .ty _, t1, t4, _, rfl, iteF ?_⟩⟩⟩
      have hnl := numF_len (n := xs.length) (k := 1) (by omega)
      refine ⟨sz1, fun p hp => ⟨_, rfl, a, xs, rfl, .inr (SqT.of (same_upd hp _ _ e)), xs.length, rfl, hx8, fun q H1 s1 h1 => ?_⟩⟩
      refine cat_of (s1 _ _ upd_same) h1 (by rw [nts_len]; exact sz16 (by simp; omega)) fun q2 H2 s2 h2 => ?_
      have s02 : Same H H2 := ((same_upd hp).trans s1).trans s2
      refine ⟨_, rfl, a, rfl, ⟨xs, SqT.of (s02 _ _ e)⟩, for_tup (K := K) (a := a) (xs := xs) (fun j σ' H' => (∃ q u, σ' = [some (.ref a), some (.ref q), u, none] ∧ H' q = some (.tup (nts (4 :: (numF xs.length ++ formAll (ds.take j)))))) ∧ Same H H')
        ⟨⟨q2, none, rfl, by rw [h2, show ds.take 0 = [] from rfl, show formAll [] = [] by simp [formAll], List.append_nil]; rfl⟩, s02⟩ (fun j σ' H' _ h => SqT.of (h.2 _ _ e)) ?_ ?_⟩
      · rintro j x σ' H' hj ⟨⟨q3, u, rfl, h3⟩, s3⟩
        obtain ⟨d, hdj, hx⟩ := r.get hj
        refine ⟨_, rfl, _, rfl, _, rfl, d, m', hx.up (same_ts s3), okAll_mem hd'.2 d (List.mem_of_getElem? hdj), by omega, by omega, fun q4 H4 s4 h4 => ?_⟩
        have tk : formAll (ds.take (j + 1)) = formAll (ds.take j) ++ form d := by rw [take_snoc hdj, formAll_snoc]
        have e5 : nts (4 :: (numF xs.length ++ formAll (ds.take j))) ++ nts (form d) = nts (4 :: (numF xs.length ++ formAll (ds.take (j + 1)))) := by
          rw [← nts_append, tk, List.cons_append, List.append_assoc]
        refine cat_of (s4 _ _ h3) h4 ?_ fun q5 H5 s5 h5 => ⟨⟨q5, _, rfl, by rw [h5, e5]⟩, (s3.trans s4).trans s5⟩
        rw [← List.length_append, e5, nts_len]
        have : (formAll (ds.take (j + 1))).length ≤ (formAll ds).length := by
          conv => rhs; rw [← List.take_append_drop (j + 1) ds, formAll_append, List.length_append]
          omega
        have h6 : (form (.tuple ds)).length = 1 + ((numF ds.length).length + (formAll ds).length) := by
          rw [form_tup, List.length_cons, List.length_append]
          omega
        have h7 : (numF xs.length).length = (numF ds.length).length := by rw [hl]
        exact sz16 (by simp; omega)
      · rintro σ' H' ⟨⟨q3, u, rfl, h3⟩, s3⟩
        have e6 : nts (4 :: (numF xs.length ++ formAll (ds.take xs.length))) = nts (form (.tuple ds)) := by
          rw [List.take_of_length_le (by omega), hl, form_tup]
        rw [e6] at h3
        exact ⟨_, rfl, k q3 H' s3 h3⟩
theorem ok__law_page (T : Tx P K mg) : Has P w K mg base CX0 8 (He.ga K "_law_page") p__law_page spLPage := by
  obtain ⟨fd, F, b⟩ := T.d__law_page
  refine ⟨fd, F.ok sc__law_page (fun vs H Q E ⟨t, m, l, xs, rows, e, _⟩ => by rw [e]; rfl) (fun cdv A outer s H vs Q E hr h => ?_), b⟩
  obtain ⟨_, G__law_form, b__law_form⟩ := ok__law_form (w := w) (base := base) T 4
  obtain ⟨t, m, l, xs, rows, rfl, hl, hr', hok, ht, hm, hz, k⟩ := h
  have hh := head_ok ht hm
  obtain ⟨x0, d0, e0, ho0⟩ := hh
  have hlen := hr'.len
  refine ⟨_, PSs.nox (pss_cons (ps_set (i := 3) sc__law_page.nd rfl (Or.inl rfl) (pe_call G__law_form (hr.mono (by decide)) rfl T.g__law_form T.kp__law_form b__law_form .nil pass0 (pa_cons (pe_tup (pa_cons pe_str (pa_cons (pv 0) (pa_cons (pv 1) pa_nil)))) pa_nil)))
      (pss_cons (ps_for PassesOwn.never rfl (pi_list (pv 2)) (pg_name (i := 4) sc__law_page.nd rfl (Or.inl rfl)) (pss_one (ps_set (i := 3) sc__law_page.nd rfl (Or.inl rfl) (pe_op op_catA (pv 3) (pe_call G__law_form (hr.mono (by decide)) rfl T.g__law_form T.kp__law_form b__law_form .nil pass0 (pa_cons (pv 4) pa_nil))))))
      (pss_one (ps_ret (pv 3))))), ?_⟩
  refine ⟨_, rfl, _, rfl, sz16 (by show 3 ≤ 16777216; decide), fun t0 ht0 => ?_⟩
  refine ⟨_, rfl, headD t m, 3, .tup upd_same (.cons (.str _) (.cons (.int _) (.cons (.int _) .nil))), by rw [e0]; exact ho0, by decide, by decide, fun p H1 s1 h1 => ?_⟩
  have s01 := (same_upd ht0 (o := .tup [.str "page", .int (t : Int), .int (m : Int)])).trans s1
  refine ⟨_, rfl, l, rfl, ⟨xs, SqL.of (s01 _ _ hl)⟩, for_list (K := K) (a := l) (xs := xs) (fun j σ' H' => Same H H' ∧ ∃ p u, σ' = [some (.int (t : Int)), some (.int (m : Int)), some (.ref l), some (.ref p), u] ∧ H' p = some (.tup (nts (pageO t m (rows.take j))))) ⟨s01, p, none, rfl, by
    rw [h1, show pageO t m (rows.take 0) = form (headD t m) by rw [List.take_zero, pageO, formAll_cons]; simp [formAll]]⟩ (fun j σ' H' _ h => SqL.of (h.1 _ _ hl)) ?_ ?_⟩
  · rintro j x σ' H' hj ⟨s2, p, u, rfl, h2⟩
    obtain ⟨d, hdj, hx⟩ := hr'.get hj
    refine ⟨_, rfl, _, rfl, _, rfl, d, 3, hx.up (same_ts s2), okAll_mem hok d (List.mem_of_getElem? hdj), by decide, by decide, fun p2 H3 s3 h3 => ?_⟩
    have tkj : pageO t m (rows.take (j + 1)) = pageO t m (rows.take j) ++ form d := by
      unfold pageO
      rw [formAll_cons, formAll_cons, take_snoc hdj, formAll_snoc, List.append_assoc]
    have hle : (pageO t m (rows.take (j + 1))).length ≤ (pageO t m rows).length := by
      unfold pageO
      rw [formAll_cons, formAll_cons, List.length_append, List.length_append]
      have := congrArg List.length (show formAll rows = formAll (rows.take (j + 1)) ++ formAll (rows.drop (j + 1)) by rw [← formAll_append, List.take_append_drop])
      rw [List.length_append] at this
      omega
    refine cat_of (s3 _ _ h2) h3 ?_ fun p4 H4 s4 h4 => ⟨(s2.trans s3).trans s4, p4, _, rfl, ?_⟩
    · rw [← List.length_append, ← nts_append, ← tkj, nts_len]
      exact sz16 (by omega)
    · rw [h4, tkj, nts_append]
  · rintro σ' H' ⟨s2, p, u, rfl, h2⟩
    rw [List.take_of_length_le (by omega)] at h2
    exact ⟨_, rfl, k p H' s2 h2⟩
theorem ok__law_lens (T : Tx P K mg) : Has P w K mg base CX0 8 (He.ga K "_law_lens") p__law_lens spLens := by
  obtain ⟨fd, F, b⟩ := T.d__law_lens
  refine ⟨fd, F.ok sc__law_lens (fun vs H Q E ⟨l, xs, W, e, _⟩ => by rw [e]; rfl) (fun cdv A outer s H vs Q E hr h => ?_), b⟩
  obtain ⟨_, G__law_form, b__law_form⟩ := ok__law_form (w := w) (base := base) T 4
  obtain ⟨l, xs, W, rfl, hl, hr', hok, hWl, k⟩ := h
  have hlen := hr'.len
  refine ⟨_, PSs.nox (pss_one (ps_ret (pe_lc (own := [("_law_row_here", 1)]) rfl sc__law_lens.nd (pi_sqv _ 0) (blkOk_by (N := n__law_lens) (sc := defScope s__law_lens) (by decide +kernel)) (fun _ _ _ _ _ => (pg_name (i := 1) sc__law_lens.nd rfl (Or.inl rfl))) (fun _ _ _ _ _ => pts_nil) (fun _ _ _ _ _ => (pe_callB (show CallR _ (.builtin "len") (rLenK K) from call_len_seq) rfl T.f_len boot_len (pa_cons (pe_call G__law_form (hr.mono (by decide)) rfl T.g__law_form T.kp__law_form b__law_form .nil pass0 (pa_cons (pv 1) pa_nil)) pa_nil)))))), ?_⟩
  refine lc_sq (fun _ => False) rfl (.inl hl) no_ex id (Nat.lt_of_lt_of_le (show xs.length < 16777216 by omega) (sz16 (Nat.le_refl _))) (fun j acc _ => acc = nts (lens (W.take j))) (fun _ _ => rfl) (fun _ _ _ _ _ _ _ _ e => e) ?_ ?_
  · rintro j u acc H2 hj s2 hl2 ea Q1 hq
    obtain ⟨d, hdj, hu⟩ := hr'.get hj
    refine ⟨_, rfl, _, rfl, d, 3, hu.up (same_ts s2.same), okAll_mem hok d (List.mem_of_getElem? hdj), by decide, by decide, fun q H3 s3 h3 => ⟨q, _, rfl, .inr (SqT.of h3), ?_⟩⟩
    rw [nts_len]
    refine hq _ _ (sx_same s3) ?_
    rw [take_snoc hdj, ea, lens, lens, List.map_append, nts_append]
    rfl
  · rintro D acc H' hl2 s2 hD ea
    rw [List.take_of_length_le (by omega)] at ea
    rw [ea] at hD
    exact k D H' s2.same hD
theorem ok__law_whole_rows (T : Tx P K mg) : Has P w K mg base CX0 1 (He.ga K "_law_whole_rows") p__law_whole_rows spWhole := by
  obtain ⟨fd, F, b⟩ := T.d__law_whole_rows
  refine ⟨fd, F.ok sc__law_whole_rows (fun vs H Q E ⟨l, ls, o, e, _⟩ => by rw [e]; rfl) (fun cdv A outer s H vs Q E hr h => ?_), b⟩
  obtain ⟨l, ls, o, rfl, hl, k⟩ := h
  refine ⟨_, PSs.nox (pss_cons (ps_set (i := 2) sc__law_whole_rows.nd rfl (Or.inl rfl) pe_int)
      (pss_cons (ps_for PassesOwn.never rfl (pi_list (pv 0)) (pg_name (i := 3) sc__law_whole_rows.nd rfl (Or.inl rfl)) (pss_cons (ps_set (i := 1) sc__law_whole_rows.nd rfl (Or.inl rfl) (pe_op op_sub (pv 1) (pv 3)))
      (pss_one (ps_if (pt_cmpR op_ge (pv 1) pe_int (nomark _)) (pss_one (ps_set (i := 2) sc__law_whole_rows.nd rfl (Or.inl rfl) (pe_op op_add (pv 2) pe_int))) pss_nil))))
      (pss_one (ps_ret (pv 2))))), ?_⟩
  refine ⟨_, rfl, l, rfl, ⟨_, SqL.of hl⟩, for_list (K := K) (a := l) (xs := nts ls) (fun j σ' H' => H' = H ∧ ∃ (o' : Int) (many : Nat) (u : Option V), σ' = [some (.ref l), some (.int o'), some (.int (many : Int)), u] ∧ many + wN (ls.drop j) o' = wN ls o) ⟨rfl, o, 0, none, rfl, by rw [List.drop_zero, Nat.zero_add]⟩ (fun j σ' H' _ h => by rw [h.1]; exact SqL.of hl) ?_ ?_⟩
  · rintro j x σ' H' hj ⟨rfl, o', many, u, rfl, hm⟩
    obtain ⟨y, rfl, hy⟩ := nts_mem hj
    have hjl : j < ls.length := (List.getElem?_eq_some_iff.mp hy).1
    have ey : ls[j] = y := (List.getElem?_eq_some_iff.mp hy).2
    rw [drop_getA hjl, ey, wN_cons] at hm
    refine ⟨_, rfl, _, rfl, _, _, rfl, rfl, _, rfl, _, _, rfl, rfl, _, rfl, ?_⟩
    by_cases h0 : 0 ≤ o' - (y : Int)
    · rw [decide_eq_true h0]
      rw [if_pos h0] at hm
      exact iteT ⟨_, rfl, _, _, rfl, rfl, rfl, o' - (y : Int), many + 1, _, rfl, by omega⟩
    · rw [decide_eq_false h0]
      rw [if_neg h0] at hm
      exact iteF ⟨rfl, o' - (y : Int), many, _, rfl, by omega⟩
  · rintro σ' H' ⟨rfl, o', many, u, rfl, hm⟩
    rw [nts_len, List.drop_of_length_le (Nat.le_refl _)] at hm
    have e0 : wN [] o' = 0 := by unfold wN; split <;> rfl
    rw [e0, Nat.add_zero] at hm
    subst hm
    exact ⟨_, rfl, k⟩
end
end K53

set_option Elab.async false
set_option linter.all false
set_option maxRecDepth 100000
set_option maxHeartbeats 4000000
/-! a row drawn, what is behind -/
namespace K53
open PySem PySem.Spec PyProof.Rows L2
/-! ### the rows that are drawn -/
def okN (n : Int) : Prop := n = 10 ^ 12 ∨ (-400 ≤ n ∧ n ≤ 300)
def dA : PyData := .tuple [.str "a"]
def dT : PyData := .tuple [.str "turn"]
def dB (n : Int) : PyData := .tuple [.str "b", .int n]
def dC : PyData := .tuple [.str "c", .none, .tuple [.int 1, .str "x", .tuple []]]
def dE (n : Int) : PyData := .tuple [.str "", .int n, .int n]
theorem lr_A : LR dA := ⟨⟨"a", [], rfl, by decide +kernel⟩, by decide +kernel, by decide +kernel, by decide +kernel⟩
theorem lr_T : LR dT := ⟨⟨"turn", [], rfl, by decide +kernel⟩, by decide +kernel, by decide +kernel, by decide +kernel⟩
theorem lr_C : LR dC := ⟨⟨"c", [.none, .tuple [.int 1, .str "x", .tuple []]], rfl, by decide +kernel⟩, by decide +kernel, by decide +kernel, by decide +kernel⟩
theorem okN_lt {n : Int} (h : okN n) : n.natAbs < 10 ^ 13 := by
  unfold okN at h
  omega
theorem okN_int {n : Int} (h : okN n) (m : Nat) : okD (.int n) m = true := by
  have := okN_lt h
  unfold okD
  exact decide_eq_true (by omega)
theorem sh_str {x : Str} (h : (PyData.str x).shown.length ≤ 14) : Sh 14 0 (.str x) := ⟨rfl, Nat.le_refl _, h⟩
theorem lr_B {n : Int} (h : okN n) : LR (dB n) := by
  have h1 := form_int_len (i := n) (by have := okN_lt h; omega)
  have h2 : (form (.str "b")).length ≤ 20 := by decide +kernel
  have hs := sh_tup (l := [.str "b", .int n]) (b := 14) (e := 0) (fun d hd => by
    rcases List.mem_cons.mp hd with e | e
    · rw [e]; exact sh_str (by decide +kernel)
    · rw [List.mem_singleton.mp e]; exact sh_int (by decide) (by decide) (okN_lt h))
  refine ⟨⟨"b", [.int n], rfl, ?_⟩, ?_, hs.1, Nat.le_trans hs.2.2 (by show 2 * (14 + 2) + 3 ≤ 100; decide)⟩
  · have e1 : okD (.str "b") 2 = true := by decide +kernel
    have e : okD (.tuple [.str "b", .int n]) 3 = (decide ([PyData.str "b", .int n].length ≤ 20) && (okD (.str "b") 2 && (okD (.int n) 2 && true))) := by simp only [okD, okAll]
    rw [e, e1, okN_int h]
    rfl
  · unfold dB
    rw [form_tup, formAll_cons, formAll_cons]
    have h3 : (numF (0 + 1 + 1)).length ≤ 2 := numF_len (n := 2) (k := 1) (by decide)
    have h0 : (formAll []).length = 0 := by simp [formAll]
    simp only [List.length_cons, List.length_append, List.length_nil]
    omega
theorem lr_E {n : Int} (h : okN n) : LR (dE n) := by
  have h1 := form_int_len (i := n) (by have := okN_lt h; omega)
  have h2 : (form (.str "")).length ≤ 20 := by decide +kernel
  have hs := sh_tup (l := [.str "", .int n, .int n]) (b := 14) (e := 0) (fun d hd => by
    have hi : Sh 14 0 (.int n) := sh_int (by decide) (by decide) (okN_lt h)
    rcases List.mem_cons.mp hd with e | e
    · rw [e]; exact sh_str (by decide +kernel)
    · rcases List.mem_cons.mp e with e | e
      · rw [e]; exact hi
      · rw [List.mem_singleton.mp e]; exact hi)
  refine ⟨⟨"", [.int n, .int n], rfl, ?_⟩, ?_, hs.1, Nat.le_trans hs.2.2 (by show 3 * (14 + 2) + 3 ≤ 100; decide)⟩
  · have e1 : okD (.str "") 2 = true := by decide +kernel
    have e : okD (.tuple [.str "", .int n, .int n]) 3 = (decide ([PyData.str "", .int n, .int n].length ≤ 20) && (okD (.str "") 2 && (okD (.int n) 2 && (okD (.int n) 2 && true)))) := by simp only [okD, okAll]
    rw [e, e1, okN_int h]
    rfl
  · unfold dE
    rw [form_tup, formAll_cons, formAll_cons, formAll_cons]
    have h3 : (numF (0 + 1 + 1 + 1)).length ≤ 2 := numF_len (n := 3) (k := 1) (by decide)
    have h0 : (formAll []).length = 0 := by simp [formAll]
    simp only [List.length_cons, List.length_append, List.length_nil]
    omega
def spLRow : Sp := fun vs H Q _ => ∃ b, vs = [.ref b] ∧ Bx b H ∧ ∀ v d H', Sx (· = b) H H' → Bx b H' → Rp H' v d → LR d → Q v H'
/-- what the law holds, in the heap -/
def OwAt (w : Addr) (O : Ow) (H : Hp) : Prop := ∃ (l e le : Addr) (xs ys : List V), H w = some (.lst [.ref l, .int (O.many : Int), .int (O.kept : Int), .int (O.page : Int), .int (O.term : Int), .ref e]) ∧ H l = some (.lst xs) ∧ RpAll H xs O.rows ∧
  H e = some (.lst [.ref le, .int (O.et : Int), .int (O.em : Int)]) ∧ H le = some (.lst ys) ∧ RpAll H ys O.er
def spBehind : Sp := fun vs H Q _ => ∃ (w l : Addr) (left : Nat) (O : Ow), vs = [.ref w, .ref l, .int (left : Int)] ∧ OwAt w O H ∧ H l = some (.lst (nts (lens O.W))) ∧ O.page ≤ 1 ∧
  ∀ p lst H' xs, Same H H' → H' p = some (.tup [.ref lst, .int ((O.bh left).2.1 : Int), .int ((O.bh left).2.2 : Int)]) → H' lst = some (.lst xs) → RpAll H' xs (O.bh left).1 → Q (.ref p) H'
theorem OwAt.up {w : Addr} {O : Ow} {H H' : Hp} (h : OwAt w O H) (s : Same H H') : OwAt w O H' := by
  obtain ⟨l, e, le, xs, ys, h1, h2, h3, h4, h5, h6⟩ := h
  exact ⟨l, e, le, xs, ys, s _ _ h1, s _ _ h2, h3.up (same_ts s), s _ _ h4, s _ _ h5, h6.up (same_ts s)⟩
section
variable {P : Program} {w : World} {K : PySem.W.Frag} {mg : Str → Option Value} {base : Heap}
theorem ok__law_row (T : Tx P K mg) : Has P w K mg base CX0 3 (He.ga K "_law_row") p__law_row spLRow := by
  obtain ⟨_, G__law_take, b__law_take⟩ := ok__law_take (w := w) (base := base) T
  obtain ⟨_, G__law_pick, b__law_pick⟩ := ok__law_pick (w := w) (base := base) T
  obtain ⟨fd, F, b⟩ := T.d__law_row
  refine ⟨fd, F.ok sc__law_row (fun vs H Q E ⟨b, e, _⟩ => by rw [e]; rfl) (fun cdv A outer s H vs Q E hr h => ?_), b⟩
  obtain ⟨b, rfl, hb, k⟩ := h
  refine ⟨_, PSs.nox (pss_cons (ps_set (i := 1) sc__law_row.nd rfl (Or.inl rfl) (pe_call G__law_pick (hr.mono (by decide)) rfl T.g__law_pick T.kp__law_pick b__law_pick .nil pass0 (pa_cons (pv 0) (pa_cons (pe_lst (pa_cons (pe_call G__law_take (hr.mono (by decide)) rfl T.g__law_take T.kp__law_take b__law_take .nil pass0 (pa_cons (pv 0) (pa_cons pe_int pa_nil))) (pa_cons pe_int (pa_cons (pe_op op_sub (pe_op op_sub pe_int pe_int) (pe_call G__law_take (hr.mono (by decide)) rfl T.g__law_take T.kp__law_take b__law_take .nil pass0 (pa_cons (pv 0) (pa_cons pe_int pa_nil)))) (pa_cons (pe_op op_pow pe_int pe_int) pa_nil))))) pa_nil))))
      (pss_one (ps_ret (pe_call G__law_pick (hr.mono (by decide)) rfl T.g__law_pick T.kp__law_pick b__law_pick .nil pass0 (pa_cons (pv 0) (pa_cons (pe_lst (pa_cons (pe_tup (pa_cons pe_str pa_nil)) (pa_cons (pe_tup (pa_cons pe_str pa_nil)) (pa_cons (pe_tup (pa_cons pe_str (pa_cons (pv 1) pa_nil))) (pa_cons (pe_tup (pa_cons pe_str (pa_cons pe_non (pa_cons (pe_tup (pa_cons pe_int (pa_cons pe_str (pa_cons (pe_tup pa_nil) pa_nil)))) pa_nil)))) (pa_cons (pe_tup (pa_cons pe_str (pa_cons (pv 1) (pa_cons (pv 1) pa_nil)))) pa_nil)))))) pa_nil)))))), ?_⟩
  refine ⟨_, rfl, _, rfl, b, 3, rfl, hb, by decide, by decide, fun n1 H1 hn1 s1 hb1 => ?_⟩
  refine ⟨_, _, rfl, rfl, _, rfl, b, 400, rfl, hb1, by decide, by decide, fun n2 H2 hn2 s2 hb2 => ?_⟩
  refine ⟨_, _, rfl, rfl, _, _, rfl, rfl, ⟨by decide, by decide, by decide⟩, sz16 (by show 4 ≤ 16777216; decide), fun l hl => ?_⟩
  have hbl : ∀ {H' : Hp} {p : Addr}, Bx b H' → H' p = none → p ≠ b := fun ⟨g, z, hb⟩ hp e => by rw [e, hb] at hp; cases hp
  have bxu : ∀ {H' : Hp} {p : Addr} {o : HO}, Bx b H' → H' p = none → Bx b (upd H' p o) := fun ⟨g, z, hb⟩ hp => ⟨g, z, same_upd hp _ _ hb⟩
  refine ⟨b, l, _, rfl, bxu hb2 hl, upd_same, hbl hb2 hl, by show 0 < 4; decide, by show 4 ≤ 1000; decide, fun i v H3 hi s3 hb3 => ?_⟩
  obtain ⟨n, rfl, hn⟩ : ∃ n : Int, v = .int n ∧ okN n := by
    unfold okN
    have hi4 := (List.getElem?_eq_some_iff.mp hi).1
    simp at hi4
    have : i = 0 ∨ i = 1 ∨ i = 2 ∨ i = 3 := by omega
    rcases this with rfl | rfl | rfl | rfl
    · exact ⟨_, (Option.some.inj hi).symm, .inr ⟨by omega, by omega⟩⟩
    · exact ⟨_, (Option.some.inj hi).symm, .inr ⟨by omega, by omega⟩⟩
    · exact ⟨_, (Option.some.inj hi).symm, .inr ⟨by omega, by omega⟩⟩
    · exact ⟨_, (Option.some.inj hi).symm, .inl rfl⟩
  have S3 : Sx (· = b) H H3 := ((s1.trans s2).trans (sx_same (same_upd hl))).trans s3
  -- the five rows
  refine ⟨_, rfl, sz1, fun a1 ha1 => ⟨sz1, fun a2 ha2 => ⟨_, rfl, sz2, fun a3 ha3 => ⟨Nat.zero_le _, fun a4 ha4 => ⟨sz16 (by show 3 ≤ 16777216; decide), fun a5 ha5 => ⟨sz16 (by show 3 ≤ 16777216; decide), fun a6 ha6 => ⟨_, rfl, _, rfl, sz16 (by show 3 ≤ 16777216; decide), fun a7 ha7 => ⟨sz16 (by show 5 ≤ 16777216; decide), fun a8 ha8 => ?_⟩⟩⟩⟩⟩⟩⟩⟩
  have u1 := same_upd ha1 (o := .tup [.str "a"])
  have u2 := same_upd ha2 (o := .tup [.str "turn"])
  have u3 := same_upd ha3 (o := .tup [.str "b", .int n])
  have u4 := same_upd ha4 (o := .tup [])
  have u5 := same_upd ha5 (o := .tup [.int 1, .str "x", .ref a4])
  have u6 := same_upd ha6 (o := .tup [.str "c", .non, .ref a5])
  have u7 := same_upd ha7 (o := .tup [.str "", .int n, .int n])
  have u8 := same_upd ha8 (o := .lst [.ref a1, .ref a2, .ref a3, .ref a6, .ref a7])
  have c78 := u7.trans u8
  have c68 := u6.trans c78
  have c58 := u5.trans c68
  have c48 := u4.trans c58
  have c38 := u3.trans c48
  have c28 := u2.trans c38
  have c18 := u1.trans c28
  have rA : Rp _ (.ref a1) dA := .tup (c28 _ _ upd_same) (.cons (.str _) .nil)
  have rT : Rp _ (.ref a2) dT := .tup (c38 _ _ upd_same) (.cons (.str _) .nil)
  have rB : Rp _ (.ref a3) (dB n) := .tup (c48 _ _ upd_same) (.cons (.str _) (.cons (.int _) .nil))
  have rC : Rp _ (.ref a6) dC := .tup (c78 _ _ upd_same) (.cons (.str _) (.cons .non (.cons (.tup (c68 _ _ upd_same) (.cons (.int _) (.cons (.str _) (.cons (.tup (c58 _ _ upd_same) .nil) .nil)))) .nil)))
  have rE : Rp _ (.ref a7) (dE n) := .tup (u8 _ _ upd_same) (.cons (.str _) (.cons (.int _) (.cons (.int _) .nil)))
  have hb8 : Bx b _ := let ⟨g, z, hb⟩ := hb3; ⟨g, z, c18 _ _ hb⟩
  have h8 := upd_same (H := upd (upd (upd (upd (upd (upd (upd H3 a1 (.tup [.str "a"])) a2 (.tup [.str "turn"])) a3 (.tup [.str "b", .int n])) a4 (.tup [])) a5 (.tup [.int 1, .str "x", .ref a4])) a6 (.tup [.str "c", .non, .ref a5])) a7 (.tup [.str "", .int n, .int n])) (a := a8) (o := .lst [.ref a1, .ref a2, .ref a3, .ref a6, .ref a7])
  have hne8 : a8 ≠ b := fun e => by
    obtain ⟨g, z, hb⟩ := hb3
    have := (u1.trans (u2.trans (u3.trans (u4.trans (u5.trans (u6.trans u7)))))) _ _ hb
    rw [e, this] at ha8
    cases ha8
  refine ⟨b, a8, _, rfl, hb8, h8, hne8, by show 0 < 5; decide, by show 5 ≤ 1000; decide, fun i v H9 hi s9 hb9 => ?_⟩
  have ts9 : TS _ H9 := fun x xs hx => s9 _ _ (fun e => by
    obtain ⟨g, z, hb⟩ := hb8
    rw [e, hb] at hx
    cases hx) hx
  have S9 : Sx (· = b) H H9 := (S3.trans (sx_same c18)).trans s9
  have hi5 := (List.getElem?_eq_some_iff.mp hi).1
  simp at hi5
  have : i = 0 ∨ i = 1 ∨ i = 2 ∨ i = 3 ∨ i = 4 := by omega
  rcases this with rfl | rfl | rfl | rfl | rfl
  · have e := (Option.some.inj hi).symm
    subst e
    exact k _ dA H9 S9 hb9 (rA.up ts9) lr_A
  · have e := (Option.some.inj hi).symm
    subst e
    exact k _ dT H9 S9 hb9 (rT.up ts9) lr_T
  · have e := (Option.some.inj hi).symm
    subst e
    exact k _ (dB n) H9 S9 hb9 (rB.up ts9) (lr_B hn)
  · have e := (Option.some.inj hi).symm
    subst e
    exact k _ dC H9 S9 hb9 (rC.up ts9) lr_C
  · have e := (Option.some.inj hi).symm
    subst e
    exact k _ (dE n) H9 S9 hb9 (rE.up ts9) (lr_E hn)
theorem ok__law_behind (T : Tx P K mg) : Has P w K mg base CX0 2 (He.ga K "_law_behind") p__law_behind spBehind := by
  obtain ⟨_, G__law_whole_rows, b__law_whole_rows⟩ := ok__law_whole_rows (w := w) (base := base) T
  obtain ⟨fd, F, b⟩ := T.d__law_behind
  refine ⟨fd, F.ok sc__law_behind (fun vs H Q E ⟨w1, l, left, O, e, _⟩ => by rw [e]; rfl) (fun cdv A outer s H vs Q E hr h => ?_), b⟩
  obtain ⟨w1, l, left, O, rfl, hO, hl, hp1, k⟩ := h
  obtain ⟨rl, e, le, xs, ys, h1, h2, h3, h4, h5, h6⟩ := hO
  refine ⟨_, PSs.nox (pss_cons (ps_asg (pv 0) (pg_lst rfl (pgs_cons (pg_name (i := 3) sc__law_behind.nd rfl (Or.inl rfl)) (pgs_cons (pg_name (i := 4) sc__law_behind.nd rfl (Or.inl rfl)) (pgs_cons (pg_name (i := 5) sc__law_behind.nd rfl (Or.inl rfl)) (pgs_cons (pg_name (i := 6) sc__law_behind.nd rfl (Or.inl rfl)) (pgs_cons (pg_name (i := 7) sc__law_behind.nd rfl (Or.inl rfl)) (pgs_cons (pg_name (i := 8) sc__law_behind.nd rfl (Or.inl rfl)) pgs_nil))))))))
      (pss_cons (ps_set (i := 9) sc__law_behind.nd rfl (Or.inl rfl) (pe_op op_sub (pe_op op_add (pv 5) (pv 2)) (pe_ix ix_list (pv 1) pe_int (fun _ _ => rfl))))
      (pss_cons (ps_set (i := 10) sc__law_behind.nd rfl (Or.inl rfl) (pe_call G__law_whole_rows (hr.mono (by decide)) rfl T.g__law_whole_rows T.kp__law_whole_rows b__law_whole_rows .nil pass0 (pa_cons (pe_slice sl_list (pv 1) (po_some pe_int) po_none) (pa_cons (pv 9) pa_nil))))
      (pss_cons (ps_if (PW.pt (pw_or (pt_cmpR op_lt (pv 9) pe_int (nomark _)) (pw_or1 (pt_cmpR op_lt (pv 10) (pv 4) (nomark _))))) (pss_one (ps_ret (pe_tup (pa_cons (pe_ix ix_list (pv 8) pe_int (fun _ _ => rfl)) (pa_cons (pe_ix ix_list (pv 8) pe_int (fun _ _ => rfl)) (pa_cons (pe_op op_sub pe_int (pv 6)) pa_nil)))))) pss_nil)
      (pss_one (ps_ret (pe_tup (pa_cons (pe_slice sl_list (pv 3) po_none (po_some (pv 10))) (pa_cons (pv 7) (pa_cons (pv 6) pa_nil)))))))))), ?_⟩
  refine ⟨_, rfl, w1, _, rfl, SqL.of h1, rfl, _, _, rfl, _, _, rfl, _, _, rfl, _, _, rfl, _, _, rfl, _, _, rfl, rfl, ?_⟩
  have hlens : nts (lens O.W) = .int ((form (headD O.term O.many)).length : Int) :: nts (lens O.rows) := rfl
  rw [hlens] at hl
  refine ⟨_, rfl, _, rfl, _, _, rfl, rfl, _, rfl, l, _, _, _, rfl, rfl, SqL.of hl, at0, _, _, rfl, rfl, ?_⟩
  refine ⟨_, rfl, 1, rfl, ?_⟩
  dsimp only [tNoPart]
  refine ⟨l, _, rfl, SqL.of hl, fun l2 hl2 => ?_⟩
  have ec : cutV (V.int ((form (headD O.term O.many)).length : Int) :: nts (lens O.rows)) (some ((1 : Nat) : Int)) none = nts (lens O.rows) := cutV_from (by simp)
  rw [show (some (1 : Int)) = some ((1 : Nat) : Int) from rfl, ec]
  have s1 := same_upd hl2 (o := .lst (nts (lens O.rows)))
  refine ⟨_, rfl, l2, lens O.rows, _, rfl, upd_same, ?_⟩
  -- how many
  have hn : O.n (O.kept + left) = if (form (headD O.term O.many)).length ≤ O.kept + left then 1 + nF (lens O.rows) (O.kept + left - (form (headD O.term O.many)).length) else 0 := rfl
  generalize eo : (O.kept : Int) + (left : Int) - ((form (headD O.term O.many)).length : Int) = o
  have hw : (o < 0 → O.n (O.kept + left) = 0) ∧ (0 ≤ o → O.n (O.kept + left) = 1 + wN (lens O.rows) o) := by
    refine ⟨fun h => by rw [hn, if_neg (by omega)], fun h => ?_⟩
    rw [hn, if_pos (by omega)]
    unfold wN
    rw [if_pos h]
    congr 2
    omega
  have elder : ¬ 1 + O.many ≤ O.n (O.kept + left) → tRet (tTup (tCons (tOp (rIxL K) (tVar 8) (tC (.int 0))) (tCons (tOp (rIxL K) (tVar 8) (tC (.int 1))) (tCons (tOp (rI0 fun i j => .int (i - j)) (tC (.int 1)) (tVar 6)) tNil)))) { nx := fun _ H' => Q .non H', rt := Q }
      [some (.ref w1), some (.ref l), some (.int (left : Int)), some (.ref rl), some (.int (O.many : Int)), some (.int (O.kept : Int)), some (.int (O.page : Int)), some (.int (O.term : Int)), some (.ref e), some (.int o), some (.int (wN (lens O.rows) o : Int))] (upd H l2 (.lst (nts (lens O.rows)))) := by
    intro hc
    have hbh : O.bh left = (O.er, O.et, 1 - O.page) := if_neg hc
    have h1e : atI [V.ref le, .int (O.et : Int), .int (O.em : Int)] 1 = some (.int (O.et : Int)) := rfl
    refine ⟨_, rfl, e, _, _, _, rfl, rfl, SqL.of (s1 _ _ h4), at0, _, rfl, e, _, _, _, rfl, rfl, SqL.of (s1 _ _ h4), h1e, _, rfl, _, _, rfl, rfl, sz16 (by show 3 ≤ 16777216; decide), fun p hp => ?_⟩
    have s2 := s1.trans (same_upd hp (o := .tup [.ref le, .int (O.et : Int), .int (1 - (O.page : Int))]))
    refine k p le _ ys s2 ?_ (s2 _ _ h5) ?_
    · rw [hbh, upd_same]
      show some (HO.tup [.ref le, .int (O.et : Int), .int (1 - (O.page : Int))]) = some (.tup [.ref le, .int (O.et : Int), .int ((1 - O.page : Nat) : Int)])
      rw [show (1 : Int) - (O.page : Int) = ((1 - O.page : Nat) : Int) by omega]
    · rw [hbh]
      exact h6.up (same_ts s2)
  refine ⟨_, rfl, _, _, rfl, rfl, _, rfl, ?_⟩
  by_cases ho : o < 0
  · rw [decide_eq_true ho]
    refine iteT (iteT (elder ?_))
    rw [hw.1 ho]
    omega
  · rw [decide_eq_false ho]
    have hn2 := hw.2 (by omega)
    refine iteF ⟨_, rfl, _, rfl, _, _, rfl, rfl, _, rfl, ?_⟩
    by_cases hm : wN (lens O.rows) o < O.many
    · rw [decide_eq_true (by omega)]
      exact iteT (elder (by omega))
    · rw [decide_eq_false (by omega)]
      refine iteF ⟨_, rfl, ?_⟩
      dsimp only [tNoPart]
      refine ⟨_, rfl, _, rfl, rl, xs, rfl, SqL.of (s1 _ _ h2), fun l3 hl3 => ⟨_, rfl, _, rfl, sz16 (by show 3 ≤ 16777216; decide), fun p hp => ?_⟩⟩
      have hbh : O.bh left = (O.rows.take (O.n (O.kept + left) - 1), O.term, O.page) := if_pos (by omega)
      have hnle := O.n_le (O.kept + left)
      have hxl := h3.len
      have s3 := same_upd hl3 (o := .lst (cutV xs none (some (wN (lens O.rows) o : Int))))
      have s4 := same_upd hp (o := .tup [.ref l3, .int (O.term : Int), .int (O.page : Int)])
      have ecx : cutV xs none (some ((wN (lens O.rows) o : Nat) : Int)) = xs.take (wN (lens O.rows) o) := cutV_to (by omega)
      refine k p l3 _ _ ((s1.trans s3).trans s4) ?_ (s4 _ _ upd_same) ?_
      · rw [hbh]; exact upd_same
      · have hr := (h3.up (same_ts ((s1.trans s3).trans s4))).head (wN (lens O.rows) o)
        rw [← ecx] at hr
        rw [hbh]
        show RpAll _ _ (O.rows.take (O.n (O.kept + left) - 1))
        rw [show O.n (O.kept + left) - 1 = wN (lens O.rows) o by omega]
        exact hr
end
end K53

set_option Elab.async false
set_option linter.all false
set_option maxRecDepth 100000
set_option maxHeartbeats 4000000
/-! is it right? -/
namespace K53
open PySem PySem.Spec PyProof.Rows L2
def HasG (P : Program) (w : World) (K : PySem.W.Frag) (mg : Str → Option Value) (base : Heap) (CX : CXT) (k : Nat) (f : Addr) (ps : List Str) (sp : Sp) : Prop := ∃ fd : FuncData, FnG P w K mg base CX k f fd ps sp ∧ L2.Binds K fd ps []
def spRight (K : PySem.W.Frag) : Sp := fun vs H Q _ => ∃ (j dx w : Addr) (S : Js) (O : Ow) (N : Nat), vs = [.ref j, .ref w] ∧ JAt K j dx S H ∧ OwAt w O H ∧ Inv2 N S O ∧ N ≤ 20 ∧ ∀ H', Same H H' → Q (.bl true) H'
theorem rk {b e : Nat} {d : PyData} (s : Sh b e d) (he : e ≤ 60) (hb : b ≤ 16777216) : d.showable = true ∧ d.depth ≤ 60 ∧ d.shown.length ≤ sizeLine := ⟨s.1, Nat.le_trans s.2.1 he, sz16 (Nat.le_trans s.2.2 hb)⟩
theorem shaped_octs (l : List Nat) : SeqAt.shaped (.tuple (l.map fun (x : Nat) => PyData.int (x : Int))) = true ∧ PyData.eqv (.tuple (l.map fun (x : Nat) => PyData.int (x : Int))) (.tuple (l.map fun (x : Nat) => PyData.int (x : Int))) = true := by
  have h : ∀ l : List Nat, PyData.canLayAll0 (l.map fun (x : Nat) => PyData.int (x : Int)) = true ∧ PyData.depthAll (l.map fun (x : Nat) => PyData.int (x : Int)) = 0 := by
    intro l
    induction l with
    | nil => exact ⟨rfl, rfl⟩
    | cons x l ih =>
      refine ⟨ih.1, ?_⟩
      show max 0 (PyData.depthAll (l.map fun (x : Nat) => PyData.int (x : Int))) = 0
      rw [ih.2]
      rfl
  obtain ⟨h1, h2⟩ := h l
  refine ⟨?_, SeqAt.eqv_refl _ h1⟩
  show (PyData.canLayAll0 (l.map fun (x : Nat) => PyData.int (x : Int)) && decide (PyData.depthAll (l.map fun (x : Nat) => PyData.int (x : Int)) + 1 ≤ 64)) = true
  rw [h1, h2]
  rfl
theorem sh4 {a : PyData} {b x y z : Nat} (h : Sh b 4 a) (hb : 10 ≤ b) (hx : x < 10 ^ 9) (hy : y < 10 ^ 9) (hz : z < 10 ^ 9) : Sh (4 * (b + 2) + 3) 5 (.list [a, .int (x : Int), .int (y : Int), .int (z : Int)]) := by
  refine (sh_lst (b := b) (e := 4) fun d hd => ?_).mono (Nat.le_refl _) (Nat.le_refl _)
  simp only [List.mem_cons, List.not_mem_nil, or_false] at hd
  rcases hd with rfl | rfl | rfl | rfl
  · exact h
  · exact (sh_nat hx).mono hb (by decide)
  · exact (sh_nat hy).mono hb (by decide)
  · exact (sh_nat hz).mono hb (by decide)
theorem sh_rows20 {l : List PyData} (h : ∀ d ∈ l, LR d) (hl : l.length ≤ 20) : Sh 2043 4 (.tuple l) := (sh_tup fun d hd => sh_row (h d hd)).mono (by have := Nat.mul_le_mul_right 102 hl; omega) (Nat.le_refl _)
/-- the law's list of cuts, so far -/
def Ow.L (O : Ow) (j : Nat) : List PyData := (List.range j).foldl (fun a x => ded a (tu (O.rowsAt (O.kept + x)))) []
theorem L_succ (O : Ow) (j : Nat) : O.L (j + 1) = ded (O.L j) (tu (O.rowsAt (O.kept + j))) := by
  unfold Ow.L
  rw [List.range_succ, List.foldl_append]
  rfl
theorem L_mem (O : Ow) : ∀ (j : Nat) (d : PyData), d ∈ O.L j → ∃ c, d = tu (O.rowsAt c)
  | 0, _, h => by cases h
  | j + 1, d, h => by
    rw [L_succ] at h
    rcases ded_rows h with h | h
    · exact L_mem O j d h
    · exact ⟨_, h⟩
theorem L_len (O : Ow) : ∀ j : Nat, (O.L j).length ≤ j
  | 0 => Nat.le_refl _
  | j + 1 => by
    rw [L_succ]
    have := L_len O j
    have := ded_len (acc := O.L j) (d := tu (O.rowsAt (O.kept + j)))
    omega
theorem list_shaped {l : List PyData} (h : ∀ d ∈ l, ∃ rows, d = tu rows ∧ ∀ x ∈ rows, rowD x) : SeqAt.shaped (.list l) = true := by
  have hh : ∀ l : List PyData, (∀ d ∈ l, ∃ rows, d = tu rows ∧ ∀ x ∈ rows, rowD x) → PyData.canLayAll0 l = true ∧ PyData.depthAll l ≤ 4 := by
    intro l
    induction l with
    | nil => exact fun _ => ⟨rfl, Nat.zero_le _⟩
    | cons x l ih =>
      intro h
      obtain ⟨rows, e, hr⟩ := h x List.mem_cons_self
      obtain ⟨i1, i2⟩ := ih fun d hd => h d (List.mem_cons_of_mem _ hd)
      obtain ⟨a, b⟩ := okAll_can rows 3 (rowAll_ok hr)
      subst e
      refine ⟨?_, Nat.max_le.mpr ⟨Nat.succ_le_succ b, i2⟩⟩
      show (PyData.canLayAll0 rows && PyData.canLayAll0 l) = true
      rw [a, i1]
      rfl
  obtain ⟨h1, h2⟩ := hh l h
  show (PyData.canLayAll0 l && decide (PyData.depthAll l + 1 ≤ 64)) = true
  rw [h1, decide_eq_true (by omega)]
  rfl
section
variable {P : Program} {w : World} {K : PySem.W.Frag} {mg : Str → Option Value} {base : Heap}
theorem ok__law_is_right (T : Tx P K mg) : HasG P w K mg base CX0 18 (He.ga K "_law_is_right") p__law_is_right (spRight K) := by
  obtain ⟨_, G_Journal_loose, b_Journal_loose⟩ := ok_Journal_loose (w := w) (base := base) T
  obtain ⟨_, G__law_page, b__law_page⟩ := ok__law_page (w := w) (base := base) T
  obtain ⟨_, G__law_lens, b__law_lens⟩ := ok__law_lens (w := w) (base := base) T
  obtain ⟨_, G__law_behind, b__law_behind⟩ := ok__law_behind (w := w) (base := base) T
  obtain ⟨_, G_journal_cuts, b_journal_cuts⟩ := ok_journal_cuts (w := w) (base := base) T
  obtain ⟨fd, F, b⟩ := T.d__law_is_right
  refine ⟨fd, funD_okG F sc__law_is_right (fun vs H Q E ⟨j, dx, w1, S, O, N, e, _⟩ => by rw [e]; rfl) (fun cdv A outer s H vs Q E gd hr h => ?_), b⟩
  obtain ⟨j, dx, w1, S, O, N, rfl, hJ, hO, hI, hN, k⟩ := h
  have hq : (A.deeper (envOfC "_law_is_right" (defScope s__law_is_right) s.heap.objs.size (He.ga K "_law_is_right") cdv)).units + 64 < cLine := by
    have := hr.un
    omega
  have hu := hq
  refine ⟨_, PSs.nox (pss_cons (ps_asg (pv 1) (pg_lst rfl (pgs_cons (pg_name (i := 2) sc__law_is_right.nd rfl (Or.inl rfl)) (pgs_cons (pg_name (i := 3) sc__law_is_right.nd rfl (Or.inl rfl)) (pgs_cons (pg_name (i := 4) sc__law_is_right.nd rfl (Or.inl rfl)) (pgs_cons (pg_name (i := 5) sc__law_is_right.nd rfl (Or.inl rfl)) (pgs_cons (pg_name (i := 6) sc__law_is_right.nd rfl (Or.inl rfl)) (pgs_cons (pg_name (i := 7) sc__law_is_right.nd rfl (Or.inl rfl)) pgs_nil))))))))
      (pss_cons (ps_if (pt_cmpR op_ne (pe_callB (call_repr gd hu) rfl T.f_repr boot_repr (pa_cons (pe_lst (pa_cons (pe_fld (pv 0) rfl) (pa_cons (pe_fld (pv 0) rfl) (pa_cons (pe_fld (pv 0) rfl) (pa_cons (pe_fld (pv 0) rfl) pa_nil))))) pa_nil)) (pe_callB (call_repr gd hu) rfl T.f_repr boot_repr (pa_cons (pe_lst (pa_cons (pe_callTy call_tof rfl T.f_tuple boot_tuple (pa_cons (pv 2) pa_nil)) (pa_cons (pv 5) (pa_cons (pv 6) (pa_cons (pv 4) pa_nil))))) pa_nil)) (nomark _)) (pss_one (ps_ret pe_bl)) pss_nil)
      (pss_cons (ps_par (i := 8) (j := 9) rfl sc__law_is_right.nd rfl rfl (by decide) rfl rfl (pa_cons (pe_call G__law_page (hr.mono (by decide)) rfl T.g__law_page T.kp__law_page b__law_page .nil pass0 (pa_cons (pv 6) (pa_cons (pv 3) (pa_cons (pv 2) pa_nil)))) (pa_cons (pe_call G__law_lens (hr.mono (by decide)) rfl T.g__law_lens T.kp__law_lens b__law_lens .nil pass0 (pa_cons (pe_op op_cat (pe_lst (pa_cons (pe_tup (pa_cons pe_str (pa_cons (pv 6) (pa_cons (pv 3) pa_nil)))) pa_nil)) (pv 2)) pa_nil)) pa_nil)) rfl)
      (pss_cons (ps_if (PW.pt (pw_or (pt_cmpR (op_neD hq) (pe_ix ix_tup (pe_fld (pv 0) rfl) (pv 5) (fun _ _ => rfl)) (pv 8) (nomark _)) (pw_or1 (pt_cmpR op_ne (pe_meth0 (pv 0) T.c_Journal T.m_Journal_loose G_Journal_loose (hr.mono (by decide)) b_Journal_loose .nil pass0) (pe_op op_sub (pe_callB call_len_seq rfl T.f_len boot_len (pa_cons (pv 8) pa_nil)) (pv 4)) (nomark _))))) (pss_one (ps_ret pe_bl)) pss_nil)
      (pss_cons (ps_set (i := 10) sc__law_is_right.nd rfl (Or.inl rfl) (pe_lst pa_nil))
      (pss_cons (ps_for PassesOwn.never rfl (pi_range1 rfl T.f_range (pa_cons (pe_op op_add (pe_op op_sub (pe_callB call_len_seq rfl T.f_len boot_len (pa_cons (pv 8) pa_nil)) (pv 4)) pe_int) pa_nil)) (pg_name (i := 11) sc__law_is_right.nd rfl (Or.inl rfl)) (pss_cons (ps_set (i := 12) sc__law_is_right.nd rfl (Or.inl rfl) (pe_callTy call_tof rfl T.f_tuple boot_tuple (pa_cons (pe_ix ix_tup (pe_call G__law_behind (hr.mono (by decide)) rfl T.g__law_behind T.kp__law_behind b__law_behind .nil pass0 (pa_cons (pv 1) (pa_cons (pv 9) (pa_cons (pv 11) pa_nil)))) pe_int (fun _ _ => rfl)) pa_nil)))
      (pss_one (ps_if (PW.pt (pw_or (pt_cmpR (op_eqD hq) (pv 10) (pe_lst pa_nil) (nomark _)) (pw_or1 (pt_cmpR (op_neD hq) (pe_ix ix_list (pv 10) (pe_op op_sub (pe_callB call_len_seq rfl T.f_len boot_len (pa_cons (pv 10) pa_nil)) pe_int) (fun _ _ => rfl)) (pv 12) (nomark _))))) (pss_one (ps_expr (pe_bm PySem.F.plainAttrs_list PySem.F.slot_list_append PySem.F.type_list_append mt_append (pv 10) (pa_cons (pv 12) pa_nil)))) pss_nil))))
      (pss_one (ps_ret (pe_cmpR op_eq (pe_callB (call_repr gd hu) rfl T.f_repr boot_repr (pa_cons (pe_call G_journal_cuts (hr.mono (by decide)) rfl T.g_journal_cuts T.kp_journal_cuts b_journal_cuts .nil pass0 (pa_cons (pv 0) pa_nil)) pa_nil)) (pe_callB (call_repr gd hu) rfl T.f_repr boot_repr (pa_cons (pe_callTy call_tof rfl T.f_tuple boot_tuple (pa_cons (pv 10) pa_nil)) pa_nil)) (nomark _)))))))))), ?_⟩
  obtain ⟨l, e, le, xs, ys, h1, h2, h3, h4, h5, h6⟩ := id hO
  obtain ⟨hp, pg, q0, q1, td, g1, g2, g3, g4, g5⟩ := id hJ
  obtain ⟨q, hat, hqc⟩ := cur_at hp g3 g4
  rw [hI.cur] at hqc
  rw [hI.pg] at hat
  rw [hI.pg, hI.tm, hI.kp] at g1
  rw [hI.rw] at g5
  have rn := hI.rn
  have tn := hI.tn
  have hmany := hI.many
  have hp1 := hI.p1
  have hkc := hI.kc
  have hWr := W_ok (by omega) hI.rl hI.tn hI.many hI.rn
  have hpl : (formAll O.W).length ≤ 1400 := by
    have := page_len (t := O.term) (m := O.many) (l := O.rows) (by omega) (by omega) hI.rl
    show (pageO O.term O.many O.rows).length ≤ 1400
    omega
  refine ⟨_, rfl, w1, _, rfl, SqL.of h1, rfl, _, _, rfl, _, _, rfl, _, _, rfl, _, _, rfl, _, _, rfl, _, _, rfl, rfl, ?_⟩
  -- the state shown
  have shR := sh_rows20 hI.rl (by omega)
  have sh1 : Sh (4 * (2043 + 2) + 3) 5 (.list [.tuple O.rows, .int (O.page : Int), .int (O.term : Int), .int (O.kept : Int)]) := sh4 shR (by decide) (by omega) (by omega) (by omega)
  obtain ⟨k1, k2, k3⟩ := rk sh1 (by decide) (by decide)
  have sz4 : 4 ≤ sizeLine := sz16 (by decide)
  refine ⟨_, rfl, j, _, dx, _, _, rfl, g1, T.c_Journal, T.n_Journal_told, jl_told _ _ _ _ _, _, rfl, j, _, dx, _, _, rfl, g1, T.c_Journal, T.n_Journal_page, jl_page _ _ _ _ _, _, rfl, j, _, dx, _, _, rfl, g1, T.c_Journal, T.n_Journal_term, jl_term _ _ _ _ _, _, rfl, j, _, dx, _, _, rfl, g1, T.c_Journal, T.n_Journal_kept, jl_kept _ _ _ _ _, sz4, fun p1 hp1' => ?_⟩
  have s1 := same_upd hp1' (o := .lst [td, .int (O.page : Int), .int (O.term : Int), .int (O.kept : Int)])
  refine ⟨_, _, rfl, .lst (SqL.of upd_same) (.cons ((g5.up (same_ts s1)).dp _ _) (.cons (.int _) (.cons (.int _) (.cons (.int _) .nil)))), k1, k2, k3, fun b z => (by cases z), (fun z => by cases z), fun z y => (by cases y), ?_⟩
  refine ⟨_, rfl, l, xs, rfl, .inl (s1 _ _ h2), fun t H2 s2 ht => ?_⟩
  have s12 := s1.trans s2
  refine ⟨_, rfl, _, rfl, _, rfl, sz4, fun p2 hp2 => ?_⟩
  have s3 := same_upd hp2 (o := .lst [.ref t, .int (O.page : Int), .int (O.term : Int), .int (O.kept : Int)])
  have s13 := s12.trans s3
  refine ⟨_, _, rfl, .lst (SqL.of upd_same) (.cons (Rp.dp (.tuple O.rows) _ (.tup (s3 _ _ ht) (h3.up (same_ts s13)))) (.cons (.int _) (.cons (.int _) (.cons (.int _) .nil)))), k1, k2, k3, fun b z => (by cases z), (fun z => by cases z), fun z y => (by cases y), rfl, _, rfl, ?_⟩
  rw [decide_eq_true rfl]
  refine iteF ?_
  clear k1 k2 k3 sh1
  generalize upd H2 p2 (.lst [.ref t, .int (O.page : Int), .int (O.term : Int), .int (O.kept : Int)]) = H3 at s3 s13
  -- the page, the lens
  refine ⟨_, rfl, _, rfl, _, rfl, O.term, O.many, l, xs, O.rows, rfl, s13 _ _ h2, h3.up (same_ts s13), rowAll_ok (rowsOk hI.rl), by omega, by omega, Nat.le_trans hpl (by decide), fun po H4 s4 h4o => ?_⟩
  have s14 := s13.trans s4
  refine ⟨_, rfl, _, rfl, sz16 (by show 3 ≤ 16777216; decide), fun p5 hp5 => ⟨sz1, fun p6 hp6 => ⟨_, rfl, p6, l, [.ref p5], xs, rfl, rfl, upd_same, ?_, ?_, fun p7 hp7 => ?_⟩⟩⟩
  · exact same_upd hp6 _ _ (same_upd hp5 _ _ (s14 _ _ h2))
  · rw [h3.len]; exact sz16 (by show 1 + O.rows.length ≤ 16777216; omega)
  have u5 := same_upd hp5 (o := .tup [.str "page", .int (O.term : Int), .int (O.many : Int)])
  have u6 := same_upd hp6 (o := .lst [.ref p5])
  have u7 := same_upd hp7 (o := .lst ([.ref p5] ++ xs))
  have u57 := (u5.trans u6).trans u7
  have s17 := s14.trans u57
  have rW : RpAll _ ([.ref p5] ++ xs) O.W := .cons (.tup ((u6.trans u7) _ _ upd_same) (.cons (.str _) (.cons (.int _) (.cons (.int _) .nil)))) (h3.up (same_ts s17))
  refine ⟨p7, _, O.W, rfl, upd_same, rW, rowAll_ok hWr, by show O.rows.length + 1 ≤ 1000; omega, fun pl H8 s8 h8l => ?_⟩
  refine ⟨_, _, rfl, ?_⟩
  have s18 := s17.trans s8
  have hpo8 := s8 _ _ (u57 _ _ h4o)
  have gJ := s18 _ _ g1
  -- the page and what is loose
  obtain ⟨o1, o2⟩ := shaped_octs (formAll O.W)
  have dO : Dp K H8 (.ref q) (.tuple ((formAll O.W).map fun (x : Nat) => PyData.int (x : Int))) := .tup (SqT.of (s18 _ _ hqc)) ((RpAll.nts _).dp _ _)
  have dP : Dp K H8 (.ref po) (.tuple ((formAll O.W).map fun (x : Nat) => PyData.int (x : Int))) := .tup (SqT.of hpo8) ((RpAll.nts _).dp _ _)
  refine ⟨_, rfl, j, _, dx, _, _, rfl, gJ, T.c_Journal, T.n_Journal_pages, jl_pages _ _ _ _ _, _, rfl, pg, _, _, _, rfl, rfl, SqT.of (s18 _ _ g2), hat, _, rfl, _, _, dO, dP, o1, o1, _, rfl, ?_⟩
  rw [o2]
  have hloose : ((S.cur.length - S.kept : Nat) : Int) = ((formAll O.W).length : Int) - (O.kept : Int) := by rw [hI.cur, hI.kp]; omega
  refine iteF ⟨_, rfl, j, dx, _, rfl, gJ, jn_loose _ _ _ _ _, j, dx, S, rfl, hJ.up s18, by rw [hI.cur, hI.kp]; exact hkc, _, rfl, po, _, rfl, .inr (SqT.of hpo8), _, rfl, _, _, rfl, rfl, rfl, _, rfl, ?_⟩
  have hpol : (nts (pageO O.term O.many O.rows)).length = (formAll O.W).length := nts_len _
  rw [hpol, hloose, decide_eq_true rfl]
  refine iteF ⟨Nat.zero_le _, fun C hC => ?_⟩
  have hCH : H C = none := by
    cases z : H C with
    | none => rfl
    | some u => rw [s18 _ _ z] at hC; cases hC
  have hCn : ∀ {b : Addr} {o : HO}, H b = some o → b ≠ C := fun hb z => by rw [z, hCH] at hb; cases hb
  have hO8 := hO.up s18
  have hJ8 := hJ.up s18
  have s89 := same_upd hC (o := .lst [])
  refine ⟨_, rfl, po, _, rfl, .inr (SqT.of (s89 _ _ hpo8)), _, rfl, _, _, rfl, rfl, _, _, rfl, rfl, _, rfl, ?_, ?_, ?_⟩
  · rw [hpol]; omega
  · rw [hpol]; omega
  have hn : (((nts (pageO O.term O.many O.rows)).length : Int) - (O.kept : Int) + 1).toNat = (formAll O.W).length - O.kept + 1 := by rw [hpol]; omega
  rw [hn]
  refine for_range (lo := 0) (n := (formAll O.W).length - O.kept + 1) (fun i σ' H' => ∃ xs' u v, σ' = [some (.ref j), some (.ref w1), some (.ref l), some (.int (O.many : Int)), some (.int (O.kept : Int)), some (.int (O.page : Int)), some (.int (O.term : Int)), some (.ref e), some (.ref po), some (.ref pl), some (.ref C), u, v] ∧ Same H8 H' ∧ H' C = some (.lst xs') ∧ RpAll H' xs' (O.L i))
    ⟨[], none, none, rfl, s89, upd_same, .nil⟩ ?_ ?_
  · rintro i σ' H' hi ⟨xs', u, v, rfl, t8, tC, tr⟩
    have hl8 := t8 _ _ h8l
    refine ⟨_, rfl, _, rfl, _, rfl, w1, pl, i, O, (by show [V.ref w1, V.ref pl, V.int (0 + (i : Int))] = _; rw [Int.zero_add]), hO8.up t8, hl8, hp1, fun p lst H9 zs s9 hp9 hl9 hr9 => ?_⟩
    refine ⟨p, _, 0, _, rfl, rfl, SqT.of hp9, at0, lst, zs, rfl, .inl hl9, fun t H10 s10 ht => ?_⟩
    have s910 := s9.trans s10
    have dn : Rp H10 (.ref t) (tu (O.rowsAt (O.kept + i))) := by
      rw [bh_rows] at hr9
      exact .tup ht (hr9.up (same_ts s10))
    have hC10 := s910 _ _ tC
    have r10 := tr.up (same_ts s910)
    have hrows : ∀ c, ∀ d ∈ O.rowsAt c, rowD d := fun c => rowsOk (by rw [rowsAt_G]; exact G_ok hI _)
    have hLs : SeqAt.shaped (.list (O.L i)) = true := list_shaped fun d hd => by
      obtain ⟨c, hc⟩ := L_mem O i d hd
      exact ⟨_, hc, hrows c⟩
    have hll := L_len O i
    have hxl : xs'.length ≤ 1401 := by rw [r10.len]; omega
    have dL : Dp K H10 (.ref C) (.list (O.L i)) := .lst (SqL.of hC10) (r10.dp _ _)
    refine ⟨_, rfl, Nat.zero_le _, fun l0 hl0 => ?_⟩
    have s11 := same_upd hl0 (o := .lst [])
    have dL' : Dp K (upd H10 l0 (.lst [])) (.ref C) (.list (O.L i)) := .lst (SqL.of (s11 _ _ hC10)) ((r10.up (same_ts s11)).dp _ _)
    refine ⟨_, _, dL', .lst (SqL.of upd_same) .nil, hLs, by decide +kernel, _, rfl, ?_⟩
    have s8e := t8.trans (s910.trans s11)
    have hCe := s11 _ _ hC10
    have re := r10.up (same_ts s11)
    have de := dn.up (same_ts s11)
    have hne : ∀ {b : Addr} {o : HO} {H' : Hp}, Same H8 H' → H8 b = some o → upd H' C (.lst (xs' ++ [.ref t])) b = some o := fun sx hb => by rw [upd_ne (fun z => by rw [z, hC] at hb; cases hb)]; exact sx _ _ hb
    generalize upd H10 l0 (.lst []) = H11 at s8e hCe re de s11 dL'
    -- append
    have app : O.L (i + 1) = O.L i ++ [tu (O.rowsAt (O.kept + i))] → ∀ (D : Ends), D.nx = (fun σ' H' => ∃ xs' u v, σ' = [some (.ref j), some (.ref w1), some (.ref l), some (.int (O.many : Int)), some (.int (O.kept : Int)), some (.int (O.page : Int)), some (.int (O.term : Int)), some (.ref e), some (.ref po), some (.ref pl), some (.ref C), u, v] ∧ Same H8 H' ∧ H' C = some (.lst xs') ∧ RpAll H' xs' (O.L (i + 1))) →
        tDrop (tBM K "list" rAppend (tVar 10) (tCons (tVar 12) tNil)) D [some (.ref j), some (.ref w1), some (.ref l), some (.int (O.many : Int)), some (.int (O.kept : Int)), some (.int (O.page : Int)), some (.int (O.term : Int)), some (.ref e), some (.ref po), some (.ref pl), some (.ref C), some (.int (0 + (i : Int))), some (.ref t)] H11 := by
      intro hL D hD
      refine ⟨_, rfl, .inl ⟨rfl, _, SqL.of hCe⟩, _, rfl, C, _, _, rfl, rfl, hCe, Nat.lt_of_le_of_lt hxl (Nat.lt_of_lt_of_le (by decide : 1401 < 16777216) (sz16 (Nat.le_refl _))), ?_⟩
      rw [hD]
      refine ⟨xs' ++ [.ref t], _, _, rfl, fun b o hb => hne s8e hb, upd_same, ?_⟩
      rw [hL]
      exact (re.app (RpAll.one de)).up (up_lst hCe)
    rcases List.eq_nil_or_concat (O.L i) with eA | ⟨A', z, eA⟩
    · rw [eA]
      refine iteT (iteT (app ?_ _ rfl))
      rw [L_succ, eA]
      rfl
    · rw [List.concat_eq_append] at eA
      have ev : PyData.eqv (.list (O.L i)) (.list []) = false := by
        rw [eA]
        cases A' <;> rfl
      rw [ev]
      have re2 := re
      rw [eA] at re2
      obtain ⟨xs2, vz, exs, ra, rz⟩ := re2.snoc
      obtain ⟨c, rfl⟩ := L_mem O i z (by rw [eA]; simp)
      have hidx : atI xs' ((xs'.length : Int) - 1) = some vz := by
        rw [exs]
        have : (((xs2 ++ [vz]).length : Nat) : Int) - 1 = (xs2.length : Int) := by simp
        rw [this]
        exact atI_nat (by simp)
      refine iteF ⟨_, rfl, _, rfl, C, xs', rfl, .inl (SqL.of hCe), _, _, rfl, rfl, C, _, _, vz, rfl, rfl, SqL.of hCe, hidx, _, rfl, tu (O.rowsAt c), tu (O.rowsAt (O.kept + i)), rz.dp _ _, de.dp _ _, rows_shaped (hrows _), rows_shaped (hrows _), _, rfl, ?_⟩
      have ed : O.L (i + 1) = if PyData.eqv (tu (O.rowsAt c)) (tu (O.rowsAt (O.kept + i))) = true then O.L i else O.L i ++ [tu (O.rowsAt (O.kept + i))] := by
        rw [L_succ]
        unfold ded
        rw [eA, List.getLast?_append]
        rfl
      cases hev : PyData.eqv (tu (O.rowsAt c)) (tu (O.rowsAt (O.kept + i))) with
      | true =>
        rw [hev, if_pos rfl] at ed
        exact iteF ⟨xs', _, _, rfl, s8e, hCe, by rw [ed]; exact re⟩
      | false =>
        rw [hev, if_neg Bool.false_ne_true] at ed
        exact iteT (app ed _ rfl)
  · rintro σ' H' ⟨xs', u, v, rfl, t8, tC, tr⟩
    have eL : cutsF S.kept O.rowsAt (S.kept :: endsF O.W) = O.L ((formAll O.W).length - O.kept + 1) := by rw [hI.kp]; exact (hI.cuts (by omega)).symm
    have shL : Sh (1401 * (2043 + 2) + 3) 5 (.tuple (O.L ((formAll O.W).length - O.kept + 1))) := by
      refine (sh_tup (b := 2043) (e := 4) fun d hd => ?_).mono ?_ (Nat.le_refl _)
      · obtain ⟨c, rfl⟩ := L_mem O _ d hd
        rw [rowsAt_G]
        exact sh_rows20 (G_ok hI _) (Nat.le_trans (G_len hI _) hN)
      · have := L_len O ((formAll O.W).length - O.kept + 1)
        have := Nat.mul_le_mul_right (2043 + 2) (show (O.L ((formAll O.W).length - O.kept + 1)).length ≤ 1401 by omega)
        omega
    obtain ⟨k1, k2, k3⟩ := rk shL (by decide) (by decide)
    refine ⟨_, rfl, j, dx, S, O.W, O.rowsAt, rfl, hJ8.up t8, hI.cur, hWr, by show O.rows.length + 1 ≤ 1000; omega, by rw [hI.cur, hI.kp]; exact hkc, fun left h1l h2l => ?_, fun p zs H9 s9 hp9 rp9 => ?_⟩
    · obtain ⟨r0, r1, b, P0, P1, hb, _⟩ := hI.cutOk (by omega) (left - O.kept) (by rw [hI.cur] at h2l; rw [hI.kp] at h1l; omega)
      have e1 : S.cut1 (left - O.kept) = S.put (S.cur.take left) := by
        unfold Js.cut1
        rw [hI.kp] at h1l ⊢
        rw [show O.kept + (left - O.kept) = left by omega]
      rw [e1] at P0 P1
      rw [bh_rows, show O.kept + (left - O.kept) = left by rw [hI.kp] at h1l; omega] at hb
      exact ⟨r0, r1, _, _, b, P0, P1, hb, rowsOk (by rw [rowsAt_G]; exact G_ok hI _)⟩
    · rw [eL] at rp9
      refine ⟨_, _, rfl, .tup (SqT.of hp9) (rp9.dp _ _), k1, k2, k3, fun b z => (by cases z), (fun z => by cases z), fun z y => (by cases y), ?_⟩
      refine ⟨_, rfl, C, xs', rfl, .inl (s9 _ _ tC), fun t H10 s10 ht => ?_⟩
      refine ⟨_, _, rfl, .tup (SqT.of ht) (((tr.up (same_ts s9)).up (same_ts s10)).dp _ _), k1, k2, k3, fun b z => (by cases z), (fun z => by cases z), fun z y => (by cases y), rfl, ?_⟩
      rw [decide_eq_true rfl]
      exact k _ (((s18.trans t8).trans s9).trans s10)
end
end K53

set_option Elab.async false
set_option linter.all false
set_option maxRecDepth 100000
set_option maxHeartbeats 4000000
/-! a cut, looked at -/
namespace K53
open PySem PySem.Spec PyProof.Rows L2
def ex3 (b j w : Addr) : Addr → Prop := fun x => x = b ∨ x = j ∨ x = w
def spCutR (K : PySem.W.Frag) : Sp := fun vs H Q _ => ∃ (b j dx w : Addr) (S : Js) (O : Ow) (N : Nat), vs = [.ref b, .ref j, .ref w] ∧ Bx b H ∧ JAt K j dx S H ∧ OwAt w O H ∧ Inv2 N S O ∧ N ≤ 20 ∧ S.oth.length ≤ 1400 ∧
  ∀ S' O' H', Sx (ex3 b j w) H H' → Bx b H' → JAt K j dx S' H' → OwAt w O' H' → Inv2 N S' O' → S'.oth.length ≤ 1400 → Q (.bl true) H'
/-- list(xs) of a list or a tuple -/
def rLof : List V → Hp → VK → Prop := fun xs H Q => ∃ a ys, xs = [.ref a] ∧ Sq H a ys ∧ ∀ l, H l = none → Q (.ref l) (upd H l (.lst ys))
theorem call_lof {X : Cx} : CallR X (.type "list") rLof := by
  intro pins s σ H xs us Q I r h
  obtain ⟨a, ys, e, hs, k⟩ := h
  exact call_list_of pins s σ H xs us Q I r ⟨a, ys, e, hs.sq, k⟩
theorem tn_asg {te : TE} {g : TG} {u : L2.TS} {D D' : Ends} {σ : L2.St} {H : Hp} (h : te σ H fun x H1 => g x σ H1 (u D)) : tNext ({ D' with nx := tSeq (tAsg te g) u D } : Ends) σ H := h
theorem tc1 {te : TE} {σ : L2.St} {H : Hp} {Q : List V → Hp → Prop} (h : te σ H fun x H1 => Q [x] H1) : tCons te tNil σ H Q := h
/-- [e for x in a tuple], the list's place known -/
theorem lc_itup {K : PySem.W.Frag} {k : Nat} {te0 te : TE} {σ : L2.St} {H H0 : Hp} {Q : VK} {a : Addr} {xs : List V} (h : ∀ R : VK, R (.ref a) H → te0 σ H0 R) (ha : H a = some (.tup xs)) (hn : xs.length < 16777216)
    (P : Addr → Nat → List V → Hp → Prop) (h0 : ∀ D, H D = none → P D 0 [] (upd H D (.lst []))) (mono : ∀ D j acc H1 l l', H1 D = some (.lst l) → P D j acc H1 → P D j acc (upd H1 D (.lst l')))
    (step : ∀ D j v acc H1, H D = none → xs[j]? = some v → Same H H1 → H1 D = some (.lst acc) → acc.length = j → P D j acc H1 → ∀ Q1 : VK, (∀ x H4, Same H1 H4 → P D (j + 1) (acc ++ [x]) H4 → Q1 x H4) → te (σ.set k (some v)) H1 Q1)
    (last : ∀ D acc H', acc.length = xs.length → Same H H' → H' D = some (.lst acc) → P D xs.length acc H' → Q (.ref D) H') : tLc (iTup K te0) (gName k) tYes te [k] σ H0 Q := by
  refine h _ ⟨a, rfl, ⟨xs, SqT.of ha⟩, fun D hD => ?_⟩
  refine lc_it walk_tup (fun j H' => ∃ acc, acc.length = j ∧ Same H H' ∧ H' D = some (.lst acc) ∧ P D j acc H') ⟨[], rfl, same_upd hD, upd_same, h0 D hD⟩ (fun j H' _ ⟨acc, _, s, _⟩ => SqT.of (s _ _ ha)) ?_ (fun H' ⟨acc, h1, h2, h3, h4⟩ => last D acc H' h1 h2 h3 h4)
  rintro j x H1 H2 hj ⟨acc, h1, h2, h3, h4⟩ ⟨rfl, y⟩
  have e : wipe σ [k] = σ.set k none := rfl
  refine ⟨by show ((σ.set k none).set k (some x)).set k none = σ.set k none; rw [List.set_set, List.set_set], ?_⟩
  unfold tYes
  dsimp only
  rw [if_pos rfl, e, List.set_set]
  refine step D j x acc _ hD y h2 h3 h1 h4 _ fun v H4 s4 p4 => ?_
  have hD4 := s4 D _ h3
  have hl : acc.length < 16777216 := by omega
  exact ⟨acc, hD4, Nat.lt_of_lt_of_le hl (sz16 (Nat.le_refl _)), acc ++ [v], by simp [h1], fun b o hb => by rw [upd_ne (ne_of_none hb hD)]; exact s4 _ _ (h2 _ _ hb), upd_same, mono _ _ _ _ _ _ hD4 p4⟩
/-! ### apart -/
section
variable {K : PySem.W.Frag} {b j dx w : Addr} {S : Js} {O : Ow} {H H' : Hp}
theorem rows_ne {l : Addr} {xs : List V} {rows : List PyData} (hb : Bx b H) (hl : H l = some (.lst xs)) (hr : RpAll H xs rows) (hL : ∀ d ∈ rows, LR d) : l ≠ b := fun z => by
  obtain ⟨g, s, hb⟩ := hb
  rw [z, hb] at hl
  cases hl
  cases hr with
  | @cons _ _ d _ h1 _ =>
    obtain ⟨⟨x, ds, e, _⟩, _⟩ := hL _ List.mem_cons_self
    rw [e] at h1
    cases h1
theorem own_ne {a l : Addr} {zs xs more : List V} {rows : List PyData} (hw : H w = some (.lst (.ref l :: more))) (hl : H l = some (.lst xs)) (ha : H a = some (.lst zs)) (hr : RpAll H zs rows) : a ≠ w := fun q => by
  rw [q, hw] at ha
  cases ha
  cases hr with
  | cons h1 _ =>
    cases h1 with
    | tup e _ =>
      rw [hl] at e
      cases e
theorem OwAt.bx (h : OwAt w O H) (hb : Bx b H) (h1 : ∀ d ∈ O.rows, LR d) (h2 : ∀ d ∈ O.er, LR d) (s : Sx (· = b) H H') : OwAt w O H' := by
  obtain ⟨l, e, le, xs, ys, g1, g2, g3, g4, g5, g6⟩ := h
  have n2 := rows_ne hb g2 g3 h1
  have n5 := rows_ne hb g5 g6 h2
  obtain ⟨g, z, hb⟩ := hb
  have n1 : ¬ w = b := fun q => by rw [q, hb] at g1; cases g1
  have n4 : ¬ e = b := fun q => by rw [q, hb] at g4; cases g4
  have ts : TS H H' := fun x xs hx => s _ _ (fun q => by rw [q, hb] at hx; cases hx) hx
  exact ⟨l, e, le, xs, ys, s _ _ n1 g1, s _ _ n2 g2, g3.up ts, s _ _ n4 g4, s _ _ n5 g5, g6.up ts⟩
theorem OwAt.ins {C : Addr} {fs : List (Str × V)} (h : OwAt w O H) (hj : H j = some (.ins C dx fs)) (s : Sx (· = j) H H') : OwAt w O H' := by
  obtain ⟨l, e, le, xs, ys, g1, g2, g3, g4, g5, g6⟩ := h
  have n : ∀ {a : Addr} {zs : List V}, H a = some (.lst zs) → ¬ a = j := fun ha q => by rw [q, hj] at ha; cases ha
  have ts := sx_ts hj s
  exact ⟨l, e, le, xs, ys, s _ _ (n g1) g1, s _ _ (n g2) g2, g3.up ts, s _ _ (n g4) g4, s _ _ (n g5) g5, g6.up ts⟩
theorem JAt.bx (h : JAt K j dx S H) (hb : Bx b H) (s : Sx (· = b) H H') : JAt K j dx S H' := by
  obtain ⟨hp, pg, q0, q1, td, g1, g2, g3, g4, g5⟩ := h
  obtain ⟨g, z, hb⟩ := hb
  have ts : TS H H' := fun x xs hx => s _ _ (fun q => by rw [q, hb] at hx; cases hx) hx
  exact ⟨hp, pg, q0, q1, td, s _ _ (fun q => by rw [q, hb] at g1; cases g1) g1, ts _ _ g2, ts _ _ g3, ts _ _ g4, g5.up ts⟩
theorem JAt.lst {a : Addr} {xs ys : List V} (h : JAt K j dx S H) (ha : H a = some (.lst xs)) : JAt K j dx S (upd H a (.lst ys)) := by
  obtain ⟨hp, pg, q0, q1, td, g1, g2, g3, g4, g5⟩ := h
  have ts := up_lst (l' := ys) ha
  exact ⟨hp, pg, q0, q1, td, by rw [upd_ne (fun q => by rw [q, ha] at g1; cases g1)]; exact g1, ts _ _ g2, ts _ _ g3, ts _ _ g4, g5.up ts⟩
theorem Bx.ins {C : Addr} {fs : List (Str × V)} (h : Bx b H) (hj : H j = some (.ins C dx fs)) (s : Sx (· = j) H H') : Bx b H' := by
  obtain ⟨g, z, hb⟩ := h
  exact ⟨g, z, s _ _ (fun q => by rw [q, hj] at hb; cases hb) hb⟩
theorem Bx.up (h : Bx b H) (s : Same H H') : Bx b H' := by
  obtain ⟨g, z, hb⟩ := h
  exact ⟨g, z, s _ _ hb⟩
theorem JAt.inj (h : JAt K j dx S H) : ∃ fs, H j = some (.ins (cJ K) dx fs) := by
  obtain ⟨hp, pg, q0, q1, td, g1, g2, g3, g4, g5⟩ := h
  exact ⟨_, g1⟩
theorem oth_at {q0 q1 : Addr} (hp : S.page ≤ 1) (h3 : H q0 = some (.tup (nts S.p0))) (h4 : H q1 = some (.tup (nts S.p1))) : ∃ q, atI [V.ref q0, V.ref q1] ((1 - S.page : Nat) : Int) = some (.ref q) ∧ H q = some (.tup (nts S.oth)) := by
  by_cases z : S.page = 0
  · exact ⟨q1, by rw [z]; rfl, by rw [Js.oth, if_pos z]; exact h4⟩
  · have z1 : S.page = 1 := by omega
    exact ⟨q0, by rw [z1]; rfl, by rw [Js.oth, if_neg z]; exact h3⟩
theorem sh4t {a : PyData} {b x y z : Nat} (h : Sh b 4 a) (hb : 10 ≤ b) (hx : x < 10 ^ 9) (hy : y < 10 ^ 9) (hz : z < 10 ^ 9) : Sh (4 * (b + 2) + 3) 5 (.tuple [.int (x : Int), .int (y : Int), a, .int (z : Int)]) := by
  refine (sh_tup (b := b) (e := 4) fun d hd => ?_).mono (Nat.le_refl _) (Nat.le_refl _)
  simp only [List.mem_cons, List.not_mem_nil, or_false] at hd
  rcases hd with rfl | rfl | rfl | rfl
  · exact (sh_nat hx).mono hb (by decide)
  · exact (sh_nat hy).mono hb (by decide)
  · exact h
  · exact (sh_nat hz).mono hb (by decide)
theorem sh5 {a r : PyData} {x y z : Nat} (h : Sh 240013 4 a) (h2 : Sh 2043 4 r) (hx : x < 10 ^ 9) (hy : y < 10 ^ 9) (hz : z < 10 ^ 9) : Sh (5 * (240013 + 2) + 3) 5 (.list [a, .int (x : Int), .int (y : Int), r, .int (z : Int)]) := by
  refine (sh_lst (b := 240013) (e := 4) fun d hd => ?_).mono (Nat.le_refl _) (Nat.le_refl _)
  simp only [List.mem_cons, List.not_mem_nil, or_false] at hd
  rcases hd with rfl | rfl | rfl | rfl | rfl
  · exact h
  · exact (sh_nat hx).mono (by decide) (by decide)
  · exact (sh_nat hy).mono (by decide) (by decide)
  · exact h2.mono (by decide) (by decide)
  · exact (sh_nat hz).mono (by decide) (by decide)
abbrev octD (l : List Nat) : PyData := .tuple (l.map fun (x : Nat) => PyData.int (x : Int))
theorem sh_pages {l m : List Nat} (h1 : ∀ x ∈ l, x < 256) (h2 : ∀ x ∈ m, x < 256) (hl : l.length ≤ 10000) (hm : m.length ≤ 10000) : Sh 240013 4 (.tuple [octD l, octD m]) := by
  refine (sh_tup (b := 120003) (e := 1) fun d hd => ?_).mono (by show 2 * (120003 + 2) + 3 ≤ 240013; decide) (by decide)
  simp only [List.mem_cons, List.not_mem_nil, or_false] at hd
  rcases hd with rfl | rfl
  · exact sh_octs h1 hl
  · exact sh_octs h2 hm
theorem goto_pages {S : Js} {t : Nat} {rows : List PyData} {b : Nat} (hb : S.cur.length = b) : ((⟨S.p0, S.p1, 0, 0, [], 0⟩ : Js).goto S.page t rows b).p0 = S.p0 ∧ ((⟨S.p0, S.p1, 0, 0, [], 0⟩ : Js).goto S.page t rows b).p1 = S.p1 := by
  unfold Js.goto Js.put
  unfold Js.cur at hb ⊢
  dsimp only
  by_cases z : S.page = 0
  · rw [if_pos z] at hb
    rw [if_pos z, if_pos z]
    exact ⟨List.take_of_length_le (by omega), rfl⟩
  · rw [if_neg z] at hb
    rw [if_neg z, if_neg z]
    exact ⟨rfl, List.take_of_length_le (by omega)⟩
theorem shaped4 {x y z : Int} {rows : List PyData} (h : ∀ d ∈ rows, rowD d) : SeqAt.shaped (.tuple [.int x, .int y, .tuple rows, .int z]) = true ∧ PyData.eqv (.tuple [.int x, .int y, .tuple rows, .int z]) (.tuple [.int x, .int y, .tuple rows, .int z]) = true := by
  obtain ⟨a, b⟩ := okAll_can rows 3 (rowAll_ok h)
  have c : (PyData.tuple [.int x, .int y, .tuple rows, .int z]).canLay0 = true := by
    show (true && (true && (PyData.canLayAll0 rows && (true && true)))) = true
    rw [a]
    rfl
  refine ⟨?_, SeqAt.eqv_refl _ c⟩
  unfold SeqAt.shaped
  rw [c]
  have : (PyData.tuple [.int x, .int y, .tuple rows, .int z]).depth ≤ 64 := by
    show max 0 (max 0 (max (PyData.depthAll rows + 1) (max 0 0))) + 1 ≤ 64
    omega
  rw [decide_eq_true this]
  rfl
theorem sx3_b (s : Sx (· = b) H H') : Sx (ex3 b j w) H H' := fun x o n e => s x o (fun q => n (.inl q)) e
theorem sx3_j (s : Sx (· = j) H H') : Sx (ex3 b j w) H H' := fun x o n e => s x o (fun q => n (.inr (.inl q))) e
theorem sx3_w {o : HO} : Sx (ex3 b j w) H (upd H w o) := sx_at (Sx.refl _ _) (.inr (.inr rfl))
end
section
variable {P : Program} {w : World} {K : PySem.W.Frag} {mg : Str → Option Value} {base : Heap}
theorem ok__law_cut_right (T : Tx P K mg) : HasG P w K mg base CX0 18 (He.ga K "_law_cut_right") p__law_cut_right (spCutR K) := by
  obtain ⟨_, G_Journal_loose, b_Journal_loose⟩ := ok_Journal_loose (w := w) (base := base) T
  obtain ⟨_, G__law_take, b__law_take⟩ := ok__law_take (w := w) (base := base) T
  obtain ⟨_, G__law_pick, b__law_pick⟩ := ok__law_pick (w := w) (base := base) T
  obtain ⟨_, G__law_page, b__law_page⟩ := ok__law_page (w := w) (base := base) T
  obtain ⟨_, G__law_lens, b__law_lens⟩ := ok__law_lens (w := w) (base := base) T
  obtain ⟨_, G__law_behind, b__law_behind⟩ := ok__law_behind (w := w) (base := base) T
  obtain ⟨_, G_Journal_cut, b_Journal_cut, kb_Journal_cut⟩ := ok_Journal_cut (w := w) (base := base) T
  obtain ⟨_, G_plain_journal, b_plain_journal⟩ := ok_plain_journal (w := w) (base := base) T
  obtain ⟨_, G_open_journal, b_open_journal, kb_open_journal⟩ := ok_open_journal (w := w) (base := base) T
  obtain ⟨fd, F, b⟩ := T.d__law_cut_right
  refine ⟨fd, funD_okG F sc__law_cut_right (fun vs H Q E ⟨b', j, dx, w1, S, O, N, e, _⟩ => by rw [e]; rfl) (fun cdv A outer s H vs Q E gd hr h => ?_), b⟩
  obtain ⟨b, j, dx, w1, S, O, N, rfl, hb, hJ, hO, hI, hN, hoth, k⟩ := h
  have hq : (A.deeper (envOfC "_law_cut_right" (defScope s__law_cut_right) s.heap.objs.size (He.ga K "_law_cut_right") cdv)).units + 64 < cLine := by
    have := hr.un
    omega
  have hu := hq
  refine ⟨_, PSs.nox (pss_cons (ps_set (i := 3) sc__law_cut_right.nd rfl (Or.inl rfl) (pe_meth0 (pv 1) T.c_Journal T.m_Journal_loose G_Journal_loose (hr.mono (by decide)) b_Journal_loose .nil pass0))
      (pss_cons (ps_set (i := 4) sc__law_cut_right.nd rfl (Or.inl rfl) (pe_call G__law_pick (hr.mono (by decide)) rfl T.g__law_pick T.kp__law_pick b__law_pick .nil pass0 (pa_cons (pv 0) (pa_cons (pe_lst (pa_cons (pe_call G__law_take (hr.mono (by decide)) rfl T.g__law_take T.kp__law_take b__law_take .nil pass0 (pa_cons (pv 0) (pa_cons (pe_op op_add (pv 3) pe_int) pa_nil))) (pa_cons (pe_call G__law_take (hr.mono (by decide)) rfl T.g__law_take T.kp__law_take b__law_take .nil pass0 (pa_cons (pv 0) (pa_cons (pe_op op_add (pv 3) pe_int) pa_nil))) (pa_cons (pv 3) (pa_cons pe_int pa_nil))))) pa_nil))))
      (pss_cons (ps_asg (pe_call G__law_behind (hr.mono (by decide)) rfl T.g__law_behind T.kp__law_behind b__law_behind .nil pass0 (pa_cons (pv 2) (pa_cons (pe_call G__law_lens (hr.mono (by decide)) rfl T.g__law_lens T.kp__law_lens b__law_lens .nil pass0 (pa_cons (pe_op op_cat (pe_lst (pa_cons (pe_tup (pa_cons pe_str (pa_cons (pe_ix ix_list (pv 2) pe_int (fun _ _ => rfl)) (pa_cons (pe_ix ix_list (pv 2) pe_int (fun _ _ => rfl)) pa_nil)))) pa_nil)) (pe_ix ix_list (pv 2) pe_int (fun _ _ => rfl))) pa_nil)) (pa_cons (pv 4) pa_nil)))) (pg_tup rfl (pgs_cons (pg_name (i := 5) sc__law_cut_right.nd rfl (Or.inl rfl)) (pgs_cons (pg_name (i := 6) sc__law_cut_right.nd rfl (Or.inl rfl)) (pgs_cons (pg_name (i := 7) sc__law_cut_right.nd rfl (Or.inl rfl)) pgs_nil)))))
      (pss_cons (ps_set (i := 8) sc__law_cut_right.nd rfl (Or.inl rfl) (pe_ix ix_tup (pe_fld (pv 1) rfl) (pe_op op_sub pe_int (pe_ix ix_list (pv 2) pe_int (fun _ _ => rfl))) (fun _ _ => rfl)))
      (pss_cons (ps_if (pt_cmpR op_notN (pe_meth (pv 1) T.c_Journal T.m_Journal_cut G_Journal_cut (hr.mono (by decide)) b_Journal_cut .nil pass0 (pa_cons (pv 4) pa_nil)) pe_non (nomark _)) (pss_one (ps_ret pe_bl)) pss_nil)
      (Evl.pss_cut (ps_if (pt_cmpR op_eq (pv 7) (pe_ix ix_list (pv 2) pe_int (fun _ _ => rfl)) (nomark _)) (pss_cons (ps_asg (pv 5) (pg_sub (pv 2) pe_int set_list))
      (pss_one (ps_if (pt_cmpR (op_neD hq) (pe_ix ix_tup (pe_fld (pv 1) rfl) (pe_op op_sub pe_int (pv 7)) (fun _ _ => rfl)) (pv 8) (nomark _)) (pss_one (ps_ret pe_bl)) pss_nil))) (pss_cons (ps_asg (pe_tup (pa_cons (pv 5) (pa_cons (pe_ix ix_list (pe_ix ix_list (pv 2) pe_int (fun _ _ => rfl)) pe_int (fun _ _ => rfl)) (pa_cons (pv 6) (pa_cons (pv 7) pa_nil))))) (pg_tup rfl (pgs_cons (pg_sub (pv 2) pe_int set_list) (pgs_cons (pg_sub (pv 2) pe_int set_list) (pgs_cons (pg_sub (pv 2) pe_int set_list) (pgs_cons (pg_sub (pv 2) pe_int set_list) pgs_nil))))))
      (pss_one (ps_asg (pe_lst (pa_cons (pe_lst pa_nil) (pa_cons pe_int (pa_cons pe_int pa_nil)))) (pg_sub (pv 2) pe_int set_list)))))
      (pss_cons (ps_asg (pe_callB call_len_seq rfl T.f_len boot_len (pa_cons (pe_call G__law_page (hr.mono (by decide)) rfl T.g__law_page T.kp__law_page b__law_page .nil pass0 (pa_cons (pe_ix ix_list (pv 2) pe_int (fun _ _ => rfl)) (pa_cons (pe_ix ix_list (pv 2) pe_int (fun _ _ => rfl)) (pa_cons (pe_ix ix_list (pv 2) pe_int (fun _ _ => rfl)) pa_nil)))) pa_nil)) (pg_sub (pv 2) pe_int set_list))
      (pss_cons (ps_set (i := 9) sc__law_cut_right.nd rfl (Or.inl rfl) (pe_tup (pa_cons (pe_fld (pv 1) rfl) (pa_cons (pe_fld (pv 1) rfl) (pa_cons (pe_fld (pv 1) rfl) (pa_cons (pe_fld (pv 1) rfl) pa_nil))))))
      (pss_cons (ps_if (pt_cmpR op_ne (pe_callB (call_repr gd hu) rfl T.f_repr boot_repr (pa_cons (pe_call G_plain_journal (hr.mono (by decide)) rfl T.g_plain_journal T.kp_plain_journal b_plain_journal .nil pass0 (pa_cons (pe_fld (pv 1) rfl) pa_nil)) pa_nil)) (pe_callB (call_repr gd hu) rfl T.f_repr boot_repr (pa_cons (pe_tup (pa_cons (pe_ix ix_list (pv 2) pe_int (fun _ _ => rfl)) (pa_cons (pe_ix ix_list (pv 2) pe_int (fun _ _ => rfl)) (pa_cons (pe_callTy call_tof rfl T.f_tuple boot_tuple (pa_cons (pe_ix ix_list (pv 2) pe_int (fun _ _ => rfl)) pa_nil)) (pa_cons (pe_ix ix_list (pv 2) pe_int (fun _ _ => rfl)) pa_nil))))) pa_nil)) (nomark _)) (pss_one (ps_ret pe_bl)) pss_nil)
      (pss_cons (ps_set (i := 10) sc__law_cut_right.nd rfl (Or.inl rfl) (pe_callK0 G_open_journal (hr.mono (by decide)) rfl T.g_open_journal T.kp_open_journal kb_open_journal pass0 (pk_cons (pe_lc (own := [("_law_octets", 11)]) rfl sc__law_cut_right.nd (pi_tup (pe_fld (pv 1) rfl)) (blkOk_by (N := n__law_cut_right) (sc := defScope s__law_cut_right) (by decide +kernel)) (fun _ _ _ _ _ => (pg_name (i := 11) sc__law_cut_right.nd rfl (Or.inl rfl))) (fun _ _ _ _ _ => pts_nil) (fun _ _ _ _ _ => (pe_callTy call_lof rfl T.f_list boot_list (pa_cons (pv 11) pa_nil)))) pk_nil)))
      (pss_cons (ps_if (pt_cmpR op_ne (pe_callB (call_repr gd hu) rfl T.f_repr boot_repr (pa_cons (pe_lst (pa_cons (pe_fld (pv 10) rfl) (pa_cons (pe_fld (pv 10) rfl) (pa_cons (pe_fld (pv 10) rfl) (pa_cons (pe_fld (pv 10) rfl) (pa_cons (pe_fld (pv 10) rfl) pa_nil)))))) pa_nil)) (pe_callB (call_repr gd hu) rfl T.f_repr boot_repr (pa_cons (pe_lst (pa_cons (pe_fld (pv 1) rfl) (pa_cons (pe_ix ix_tup (pv 9) pe_int (fun _ _ => rfl)) (pa_cons (pe_ix ix_tup (pv 9) pe_int (fun _ _ => rfl)) (pa_cons (pe_ix ix_tup (pv 9) pe_int (fun _ _ => rfl)) (pa_cons (pe_ix ix_tup (pv 9) pe_int (fun _ _ => rfl)) pa_nil)))))) pa_nil)) (nomark _)) (pss_one (ps_ret pe_bl)) pss_nil)
      (pss_cons (ps_expr (pe_methK (pv 1) T.c_Journal T.m_Journal_cut G_Journal_cut (hr.mono (by decide)) kb_Journal_cut pass0 (pk_cons pe_int pk_nil)))
      (pss_one (ps_ret (pe_cmpR (op_eqD hq) (pe_tup (pa_cons (pe_fld (pv 1) rfl) (pa_cons (pe_fld (pv 1) rfl) (pa_cons (pe_fld (pv 1) rfl) (pa_cons (pe_fld (pv 1) rfl) pa_nil))))) (pv 9) (nomark _)))))))))))))))), ?_⟩
  obtain ⟨fs0, hj0⟩ := hJ.inj
  have rn := hI.rn
  have tn := hI.tn
  have hmany := hI.many
  have hp1 := hI.p1
  have hkc := hI.kc
  have hWr := W_ok (by omega) hI.rl hI.tn hI.many hI.rn
  have hpl : (formAll O.W).length ≤ 1400 := by
    have := page_len (t := O.term) (m := O.many) (l := O.rows) (by omega) (by omega) hI.rl
    show (pageO O.term O.many O.rows).length ≤ 1400
    omega
  obtain ⟨_, _, _, _, _, gj, _⟩ := id hJ
  refine ⟨_, rfl, j, dx, _, rfl, gj, jn_loose _ _ _ _ _, j, dx, S, rfl, hJ, by rw [hI.cur, hI.kp]; exact hkc, ?_⟩
  have hL : S.cur.length - S.kept = (formAll O.W).length - O.kept := by rw [hI.cur, hI.kp]
  rw [hL]
  generalize eL : (formAll O.W).length - O.kept = L
  have bxu : ∀ {H' : Hp} {p : Addr} {o : HO}, Bx b H' → H' p = none → Bx b (upd H' p o) := fun h hp => h.up (same_upd hp)
  have hbl : ∀ {H' : Hp} {p : Addr}, Bx b H' → H' p = none → p ≠ b := fun ⟨g, z, hb⟩ hp e => by rw [e, hb] at hp; cases hp
  refine ⟨_, rfl, _, rfl, _, rfl, _, _, rfl, rfl, b, L + 1, rfl, hb, by omega, by omega, fun n1 H1 hn1 s1 hb1 => ?_⟩
  refine ⟨_, rfl, _, rfl, _, _, rfl, rfl, b, L + 1, rfl, hb1, by omega, by omega, fun n2 H2 hn2 s2 hb2 => ?_⟩
  refine ⟨_, rfl, sz16 (by show 4 ≤ 16777216; decide), fun ll hll => ?_⟩
  have hO2 := (hO.bx hb hI.rl hI.el s1).bx hb1 hI.rl hI.el s2
  have hJ2 := (hJ.bx hb s1).bx hb1 s2
  refine ⟨b, ll, _, rfl, bxu hb2 hll, upd_same, hbl hb2 hll, by show 0 < 4; decide, by show 4 ≤ 1000; decide, fun i v H3 hi s3 hb3 => ?_⟩
  obtain ⟨left, rfl, hleft⟩ : ∃ left : Nat, v = .int (left : Int) ∧ left ≤ L := by
    have hi4 := (List.getElem?_eq_some_iff.mp hi).1
    simp at hi4
    have : i = 0 ∨ i = 1 ∨ i = 2 ∨ i = 3 := by omega
    rcases this with rfl | rfl | rfl | rfl
    · exact ⟨n1, (Option.some.inj hi).symm, by omega⟩
    · exact ⟨n2, (Option.some.inj hi).symm, by omega⟩
    · exact ⟨L, (Option.some.inj hi).symm, by omega⟩
    · exact ⟨0, (Option.some.inj hi).symm, by omega⟩
  have sl2 := same_upd hll (o := .lst [.int (n1 : Int), .int (n2 : Int), .int (L : Int), .int 0])
  have hO3 := (hO2.up sl2).bx (bxu hb2 hll) hI.rl hI.el s3
  have hJ3 := (hJ2.up sl2).bx (bxu hb2 hll) s3
  have X3 : Sx (ex3 b j w1) H H3 := (((sx3_b s1).trans (sx3_b s2)).trans (sx_same sl2)).trans (sx3_b s3)
  clear hO2 hJ2
  -- what is behind
  obtain ⟨l, e, le, xs, ys, h1, h2, h3, h4, h5, h6⟩ := id hO3
  have at3 : ∀ (x0 x1 x2 x3 x4 x5 : V), atI [x0, x1, x2, x3, x4, x5] 3 = some x3 := fun _ _ _ _ _ _ => rfl
  have at4 : ∀ (x0 x1 x2 x3 x4 x5 : V), atI [x0, x1, x2, x3, x4, x5] 4 = some x4 := fun _ _ _ _ _ _ => rfl
  have at1 : ∀ (x0 x1 x2 x3 x4 x5 : V), atI [x0, x1, x2, x3, x4, x5] 1 = some x1 := fun _ _ _ _ _ _ => rfl
  have at2 : ∀ (x0 x1 x2 x3 x4 x5 : V), atI [x0, x1, x2, x3, x4, x5] 2 = some x2 := fun _ _ _ _ _ _ => rfl
  have at5 : ∀ (x0 x1 x2 x3 x4 x5 : V), atI [x0, x1, x2, x3, x4, x5] 5 = some x5 := fun _ _ _ _ _ _ => rfl
  refine ⟨_, rfl, _, rfl, w1, _, _, _, rfl, rfl, SqL.of h1, at4 _ _ _ _ _ _, _, rfl, w1, _, _, _, rfl, rfl, SqL.of h1, at1 _ _ _ _ _ _, sz16 (by show 3 ≤ 16777216; decide), fun p5 hp5 => ⟨sz1, fun p6 hp6 => ?_⟩⟩
  have u5 := same_upd hp5 (o := .tup [.str "page", .int (O.term : Int), .int (O.many : Int)])
  have u6 := same_upd hp6 (o := .lst [.ref p5])
  have u56 := u5.trans u6
  refine ⟨_, rfl, w1, _, _, _, rfl, rfl, SqL.of (u56 _ _ h1), at0, p6, l, [.ref p5], xs, rfl, rfl, upd_same, u56 _ _ h2, ?_, fun p7 hp7 => ?_⟩
  · rw [h3.len]; exact sz16 (by show 1 + O.rows.length ≤ 16777216; omega)
  have u7 := same_upd hp7 (o := .lst ([.ref p5] ++ xs))
  have u57 := u56.trans u7
  have rW : RpAll _ ([.ref p5] ++ xs) O.W := .cons (.tup ((u6.trans u7) _ _ upd_same) (.cons (.str _) (.cons (.int _) (.cons (.int _) .nil)))) (h3.up (same_ts u57))
  refine ⟨p7, _, O.W, rfl, upd_same, rW, rowAll_ok hWr, by show O.rows.length + 1 ≤ 1000; omega, fun pl H8 s8 h8l => ?_⟩
  have s38 := u57.trans s8
  refine ⟨_, rfl, w1, pl, left, O, rfl, hO3.up s38, h8l, hp1, fun p lst H9 zs s9 hp9 hl9 hr9 => ?_⟩
  have s39 := s38.trans s9
  refine ⟨p, _, rfl, SqT.of hp9, rfl, _, _, rfl, _, _, rfl, _, _, rfl, rfl, ?_⟩
  have hO9 := hO3.up s39
  have hJ9 := hJ3.up s39
  have hb9 := hb3.up s39
  have X9 : Sx (ex3 b j w1) H H9 := X3.trans (sx_same s39)
  clear s39 s38 u57 u56 u5 u6 u7 rW hO3 hJ3 hb3 X3 h1 h2 h3 h4 h5 h6
  -- the other page
  obtain ⟨l, e, le, xs, ys, h1, h2, h3, h4, h5, h6⟩ := id hO9
  obtain ⟨hp, pg, q0, q1, td, g1, g2, g3, g4, g5⟩ := id hJ9
  obtain ⟨qo, hato, hqo⟩ := oth_at hp g3 g4
  have eo : ((1 - S.page : Nat) : Int) = 1 - (O.page : Int) := by rw [hI.pg]; omega
  rw [eo] at hato
  refine ⟨_, rfl, j, _, dx, _, _, rfl, g1, T.c_Journal, T.n_Journal_pages, jl_pages _ _ _ _ _, _, rfl, w1, _, _, _, rfl, rfl, SqL.of h1, at3 _ _ _ _ _ _, _, _, rfl, rfl, pg, _, _, _, rfl, rfl, SqT.of g2, hato, ?_⟩
  -- the cut
  obtain ⟨r0, r1, bb, P0, P1, hbest, hpg1, hbl, hI1, hk1, hsame⟩ := hI.cutOk (by omega) left (by omega)
  refine ⟨_, rfl, j, dx, _, rfl, g1, jn_cut _ _ _ _ _, _, rfl, j, dx, S, left, r0, r1, _, _, _, bb, rfl, hJ9, by rw [hI.cur, hI.kp]; omega, P0, P1, hbest, hpg1, hbl, fun H10 x10 J10 => ⟨rfl, _, rfl, iteF ?_⟩⟩
  have hO10 := hO9.ins g1 x10
  have hb10 := hb9.ins g1 x10
  have hqo10 := sx_ts g1 x10 _ _ hqo
  have X10 : Sx (ex3 b j w1) H H10 := X9.trans (sx3_j x10)
  have hl10 : H10 lst = some (.lst zs) := x10 _ _ (fun q => by rw [q, g1] at hl9; cases hl9) hl9
  have hr10 := hr9.up (sx_ts g1 x10)
  clear h1 h2 h3 h4 h5 h6
  obtain ⟨l, e, le, xs, ys, h1, h2, h3, h4, h5, h6⟩ := id hO10
  have hnw : lst ≠ w1 := own_ne h1 h2 hl10 hr10
  have hnl : l ≠ w1 := own_ne h1 h2 h2 h3
  have hnle : le ≠ w1 := own_ne h1 h2 h5 h6
  have hne : e ≠ w1 := fun q => by
    rw [q, h1] at h4
    have := congrArg List.length (HO.lst.inj (Option.some.inj h4))
    simp at this
  generalize eS1 : (S.cut1 left).goto (O.bh left).2.2 (O.bh left).2.1 (O.bh left).1 bb = S1 at J10 hI1 hsame
  obtain ⟨fs1, hj1⟩ := J10.inj
  have hnj : j ≠ w1 := fun q => by rw [q, h1] at hj1; cases hj1
  refine ⟨fun σ' H' => ∃ u0 u3 u4 u5 u6 u7 u8, σ' = [u0, some (.ref j), some (.ref w1), u3, u4, u5, u6, u7, u8, none, none, none] ∧ JAt K j dx S1 H' ∧ OwAt w1 { O.cut left with kept := O.kept } H' ∧ Bx b H' ∧ Sx (ex3 b j w1) H H' ∧ S1.oth.length ≤ 1400, ?_, ?_⟩
  · -- what the law keeps for itself
    by_cases hc : 1 + O.many ≤ O.n (O.kept + left)
    · have ebh : O.bh left = (O.rows.take (O.n (O.kept + left) - 1), O.term, O.page) := if_pos hc
      have ecut : O.cut left = { O with rows := O.rows.take (O.n (O.kept + left) - 1), kept := (formAll (O.W.take (O.n (O.kept + left)))).length } := if_pos hc
      rw [ebh] at hr10 hsame ⊢
      have hso : S1.oth = S.oth := hsame rfl
      refine ⟨_, rfl, _, rfl, w1, _, _, _, rfl, rfl, SqL.of h1, at3 _ _ _ _ _ _, rfl, _, rfl, ?_⟩
      rw [decide_eq_true rfl]
      refine iteT ⟨_, rfl, _, rfl, w1, _, 0, 0, rfl, rfl, h1, rfl, ?_⟩
      have t1 := up_lst (l' := [V.ref lst, .int (O.many : Int), .int (O.kept : Int), .int (O.page : Int), .int (O.term : Int), .ref e]) h1
      have up1 : ∀ {a : Addr} {o : HO}, a ≠ w1 → H10 a = some o → upd H10 w1 (.lst [V.ref lst, .int (O.many : Int), .int (O.kept : Int), .int (O.page : Int), .int (O.term : Int), .ref e]) a = some o := fun hn ha => by rw [upd_ne hn]; exact ha
      have J11 := J10.lst h1 (ys := [V.ref lst, .int (O.many : Int), .int (O.kept : Int), .int (O.page : Int), .int (O.term : Int), .ref e])
      obtain ⟨hpa, pga, q0a, q1a, tda, f1, f2, f3, f4, f5⟩ := id J11
      obtain ⟨qa, hata, hqa⟩ := oth_at hpa f3 f4
      have ep1 : S1.page = O.page := by rw [hI1.pg, ecut]
      have ea : ((1 - S1.page : Nat) : Int) = 1 - (O.page : Int) := by rw [ep1]; omega
      rw [ea] at hata
      have hqa' := hqa
      rw [hso] at hqa'
      obtain ⟨o1, o2⟩ := shaped_octs S.oth
      refine ⟨_, rfl, j, _, dx, _, _, rfl, f1, T.c_Journal, T.n_Journal_pages, jl_pages _ _ _ _ _, _, rfl, _, _, rfl, rfl, pga, _, _, _, rfl, rfl, SqT.of f2, hata, _, rfl, .tuple (S.oth.map fun (x : Nat) => PyData.int (x : Int)), .tuple (S.oth.map fun (x : Nat) => PyData.int (x : Int)), .tup (SqT.of hqa') ((RpAll.nts _).dp _ _), .tup (SqT.of (t1 _ _ hqo10)) ((RpAll.nts _).dp _ _), o1, o1, _, rfl, ?_⟩
      rw [o2]
      refine iteF ⟨_, _, _, _, _, _, _, rfl, J11, ?_, ?_, X10.trans sx3_w, by rw [hso]; exact hoth⟩
      · rw [ecut]
        exact ⟨lst, e, le, zs, ys, upd_same, up1 hnw hl10, hr10.up t1, up1 hne h4, up1 hnle h5, h6.up t1⟩
      · obtain ⟨g, z, hb⟩ := hb10
        exact ⟨g, z, up1 (fun q => by rw [q, h1] at hb; cases hb) hb⟩
    · have ebh : O.bh left = (O.er, O.et, 1 - O.page) := if_neg hc
      have ecut : O.cut left = { rows := O.er, many := O.em, kept := (pageO O.et O.em O.er).length, page := 1 - O.page, term := O.et, er := [], et := 0, em := 0 } := if_neg hc
      rw [ebh] at hr10 eS1 ⊢
      have hso : S1.oth.length ≤ 1400 := by
        have ep : (S.cut1 left).page = O.page := by unfold Js.cut1; rw [put_page, hI.pg]
        rw [← eS1]
        dsimp only
        rw [← ep, goto_oth' _ _ _ _ (by omega)]
        unfold Js.cut1
        rw [put_cur, List.length_take, hI.cur]
        omega
      refine ⟨_, rfl, _, rfl, w1, _, _, _, rfl, rfl, SqL.of h1, at3 _ _ _ _ _ _, rfl, _, rfl, ?_⟩
      rw [decide_eq_false (fun q => by have := V.int.inj q; dsimp only at this; omega)]
      refine iteF ?_
      refine ⟨_, rfl, _, rfl, w1, _, _, _, rfl, rfl, SqL.of h1, at5 _ _ _ _ _ _, e, _, 2, _, rfl, rfl, SqL.of h4, rfl, _, rfl, _, rfl, sz16 (by show 4 ≤ 16777216; decide), fun t ht => ?_⟩
      have st := same_upd ht (o := .tup [.ref lst, .int (O.em : Int), .int (O.et : Int), .int ((1 - O.page : Nat) : Int)])
      have h1t := st _ _ h1
      refine ⟨t, _, rfl, SqT.of upd_same, rfl, _, _, rfl, _, rfl, w1, _, 0, 0, rfl, rfl, h1t, rfl, _, _, rfl, _, rfl, w1, _, 1, 1, rfl, rfl, upd_same, rfl, _, _, rfl, _, rfl, w1, _, 4, 4, rfl, rfl, upd_same, rfl, _, _, rfl, _, rfl, w1, _, 3, 3, rfl, rfl, upd_same, rfl, rfl, ?_⟩
      have J11 := ((((J10.up st).lst h1t (ys := [V.ref lst, .int (O.many : Int), .int (O.kept : Int), .int (O.page : Int), .int (O.term : Int), .ref e])).lst upd_same (ys := [V.ref lst, .int (O.em : Int), .int (O.kept : Int), .int (O.page : Int), .int (O.term : Int), .ref e])).lst upd_same (ys := [V.ref lst, .int (O.em : Int), .int (O.kept : Int), .int (O.page : Int), .int (O.et : Int), .ref e])).lst upd_same (ys := [V.ref lst, .int (O.em : Int), .int (O.kept : Int), .int ((1 - O.page : Nat) : Int), .int (O.et : Int), .ref e])
      have T11 := ((((same_ts st).trans (up_lst (l' := [V.ref lst, .int (O.many : Int), .int (O.kept : Int), .int (O.page : Int), .int (O.term : Int), .ref e]) h1t)).trans (up_lst (l' := [V.ref lst, .int (O.em : Int), .int (O.kept : Int), .int (O.page : Int), .int (O.term : Int), .ref e]) upd_same)).trans (up_lst (l' := [V.ref lst, .int (O.em : Int), .int (O.kept : Int), .int (O.page : Int), .int (O.et : Int), .ref e]) upd_same)).trans (up_lst (l' := [V.ref lst, .int (O.em : Int), .int (O.kept : Int), .int ((1 - O.page : Nat) : Int), .int (O.et : Int), .ref e]) upd_same)
      have F11 : ∀ {a : Addr} {o : HO}, a ≠ w1 → H10 a = some o → upd (upd (upd (upd (upd H10 t (.tup [.ref lst, .int (O.em : Int), .int (O.et : Int), .int ((1 - O.page : Nat) : Int)])) w1 (.lst [V.ref lst, .int (O.many : Int), .int (O.kept : Int), .int (O.page : Int), .int (O.term : Int), .ref e])) w1 (.lst [V.ref lst, .int (O.em : Int), .int (O.kept : Int), .int (O.page : Int), .int (O.term : Int), .ref e])) w1 (.lst [V.ref lst, .int (O.em : Int), .int (O.kept : Int), .int (O.page : Int), .int (O.et : Int), .ref e])) w1 (.lst [V.ref lst, .int (O.em : Int), .int (O.kept : Int), .int ((1 - O.page : Nat) : Int), .int (O.et : Int), .ref e]) a = some o :=
        fun hn ha => by rw [upd_ne hn, upd_ne hn, upd_ne hn, upd_ne hn]; exact st _ _ ha
      have h11 := upd_same (H := upd (upd (upd (upd H10 t (.tup [.ref lst, .int (O.em : Int), .int (O.et : Int), .int ((1 - O.page : Nat) : Int)])) w1 (.lst [V.ref lst, .int (O.many : Int), .int (O.kept : Int), .int (O.page : Int), .int (O.term : Int), .ref e])) w1 (.lst [V.ref lst, .int (O.em : Int), .int (O.kept : Int), .int (O.page : Int), .int (O.term : Int), .ref e])) w1 (.lst [V.ref lst, .int (O.em : Int), .int (O.kept : Int), .int (O.page : Int), .int (O.et : Int), .ref e])) (a := w1) (o := .lst [V.ref lst, .int (O.em : Int), .int (O.kept : Int), .int ((1 - O.page : Nat) : Int), .int (O.et : Int), .ref e])
      have X11' : Sx (ex3 b j w1) H (upd (upd (upd (upd (upd H10 t (.tup [.ref lst, .int (O.em : Int), .int (O.et : Int), .int ((1 - O.page : Nat) : Int)])) w1 (.lst [V.ref lst, .int (O.many : Int), .int (O.kept : Int), .int (O.page : Int), .int (O.term : Int), .ref e])) w1 (.lst [V.ref lst, .int (O.em : Int), .int (O.kept : Int), .int (O.page : Int), .int (O.term : Int), .ref e])) w1 (.lst [V.ref lst, .int (O.em : Int), .int (O.kept : Int), .int (O.page : Int), .int (O.et : Int), .ref e])) w1 (.lst [V.ref lst, .int (O.em : Int), .int (O.kept : Int), .int ((1 - O.page : Nat) : Int), .int (O.et : Int), .ref e])) :=
        ((((X10.trans (sx_same st)).trans sx3_w).trans sx3_w).trans sx3_w).trans sx3_w
      have hbw : ¬ b = w1 := fun q => by
        obtain ⟨g, z, hb⟩ := hb10
        rw [q, h1] at hb
        cases hb
      have b11 : Bx b _ := let ⟨g, z, hb⟩ := hb10; ⟨g, z, F11 hbw hb⟩
      have T11' : TS H10 (upd (upd (upd (upd (upd H10 t (.tup [.ref lst, .int (O.em : Int), .int (O.et : Int), .int ((1 - O.page : Nat) : Int)])) w1 (.lst [V.ref lst, .int (O.many : Int), .int (O.kept : Int), .int (O.page : Int), .int (O.term : Int), .ref e])) w1 (.lst [V.ref lst, .int (O.em : Int), .int (O.kept : Int), .int (O.page : Int), .int (O.term : Int), .ref e])) w1 (.lst [V.ref lst, .int (O.em : Int), .int (O.kept : Int), .int (O.page : Int), .int (O.et : Int), .ref e])) w1 (.lst [V.ref lst, .int (O.em : Int), .int (O.kept : Int), .int ((1 - O.page : Nat) : Int), .int (O.et : Int), .ref e])) := T11
      have l11 := F11 hnw hl10
      show tAsg (tLst (tCons (tLst tNil) (tCons (tC (.int 0)) (tCons (tC (.int 0)) tNil)))) (gSub (tVar 2) (tC (.int 5)) rSetL) _ _ (upd (upd (upd (upd (upd H10 t (.tup [.ref lst, .int (O.em : Int), .int (O.et : Int), .int ((1 - O.page : Nat) : Int)])) w1 (.lst [V.ref lst, .int (O.many : Int), .int (O.kept : Int), .int (O.page : Int), .int (O.term : Int), .ref e])) w1 (.lst [V.ref lst, .int (O.em : Int), .int (O.kept : Int), .int (O.page : Int), .int (O.term : Int), .ref e])) w1 (.lst [V.ref lst, .int (O.em : Int), .int (O.kept : Int), .int (O.page : Int), .int (O.et : Int), .ref e])) w1 (.lst [V.ref lst, .int (O.em : Int), .int (O.kept : Int), .int ((1 - O.page : Nat) : Int), .int (O.et : Int), .ref e]))
      clear T11 F11
      generalize upd (upd (upd (upd (upd H10 t (.tup [.ref lst, .int (O.em : Int), .int (O.et : Int), .int ((1 - O.page : Nat) : Int)])) w1 (.lst [V.ref lst, .int (O.many : Int), .int (O.kept : Int), .int (O.page : Int), .int (O.term : Int), .ref e])) w1 (.lst [V.ref lst, .int (O.em : Int), .int (O.kept : Int), .int (O.page : Int), .int (O.term : Int), .ref e])) w1 (.lst [V.ref lst, .int (O.em : Int), .int (O.kept : Int), .int (O.page : Int), .int (O.et : Int), .ref e])) w1 (.lst [V.ref lst, .int (O.em : Int), .int (O.kept : Int), .int ((1 - O.page : Nat) : Int), .int (O.et : Int), .ref e]) = H11 at J11 h11 X11' b11 T11' l11 ⊢
      refine ⟨Nat.zero_le _, fun a1 ha1 => ⟨sz16 (by show 3 ≤ 16777216; decide), fun a2 ha2 => ?_⟩⟩
      have v1 := same_upd ha1 (o := .lst [])
      have v2 := same_upd ha2 (o := .lst [.ref a1, .int 0, .int 0])
      have v12 := v1.trans v2
      refine ⟨_, rfl, w1, _, 5, 5, rfl, rfl, v12 _ _ h11, rfl, ?_⟩
      have h12 := v12 _ _ h11
      have F12 : ∀ {a : Addr} {o : HO}, a ≠ w1 → upd (upd H11 a1 (.lst [])) a2 (.lst [.ref a1, .int 0, .int 0]) a = some o → upd (upd (upd H11 a1 (.lst [])) a2 (.lst [.ref a1, .int 0, .int 0])) w1 (.lst [V.ref lst, .int (O.em : Int), .int (O.kept : Int), .int ((1 - O.page : Nat) : Int), .int (O.et : Int), .ref a2]) a = some o := fun hn ha => by rw [upd_ne hn]; exact ha
      have na1 : a1 ≠ w1 := fun q => by rw [q, h11] at ha1; cases ha1
      have na2 : a2 ≠ w1 := fun q => by
        have := v1 _ _ h11
        rw [q, this] at ha2
        cases ha2
      refine ⟨_, _, _, _, _, _, _, rfl, (J11.up v12).lst h12, ?_, ?_, (X11'.trans (sx_same v12)).trans sx3_w, hso⟩
      · rw [ecut]
        exact ⟨lst, a2, a1, zs, [], upd_same, F12 hnw (v12 _ _ l11), ((hr10.up T11').up (same_ts v12)).up (up_lst h12), F12 na2 upd_same, F12 na1 (v2 _ _ upd_same), .nil⟩
      · obtain ⟨g, z, hb⟩ := b11
        exact ⟨g, z, F12 hbw (v12 _ _ hb)⟩
  · rintro σ' H' ⟨u0, u3, u4, u5, u6, u7, u8, rfl, J', O', b', X', ho'⟩
    generalize eO1 : O.cut left = O1 at hI1 hk1 O'
    clear hr10 hl10 hqo10 X10 hb10 hO10 J10 h1 h2 h3 h4 h5 h6 hsame eS1 hbest P0 P1 hbl
    obtain ⟨l, e, le, xs, ys, h1, h2, h3, h4, h5, h6⟩ := id O'
    dsimp only at h1 h3 h4 h6
    have rn1 := hI1.rn
    have tn1 := hI1.tn
    have many1 := hI1.many
    have hp11 := hI1.p1
    have hpl1 : (formAll O1.W).length ≤ 1400 := by
      have := page_len (t := O1.term) (m := O1.many) (l := O1.rows) (by omega) (by omega) hI1.rl
      show (pageO O1.term O1.many O1.rows).length ≤ 1400
      omega
    obtain ⟨ebh, ecut⟩ := hI1.full hk1
    -- own[2]
    refine ⟨_, rfl, w1, _, _, _, rfl, rfl, SqL.of h1, at4 _ _ _ _ _ _, _, rfl, w1, _, _, _, rfl, rfl, SqL.of h1, at1 _ _ _ _ _ _, _, rfl, w1, _, _, _, rfl, rfl, SqL.of h1, at0, O1.term, O1.many, l, xs, O1.rows, rfl, h2, h3, rowAll_ok (rowsOk hI1.rl), by omega, by omega, Nat.le_trans hpl1 (by decide), fun po H11 s11 h11 => ?_⟩
    refine ⟨po, _, rfl, .inr (SqT.of h11), _, rfl, w1, _, 2, 2, rfl, rfl, s11 _ _ h1, rfl, ?_⟩
    rw [nts_len]
    have hkk : ((pageO O1.term O1.many O1.rows).length : Int) = (O1.kept : Int) := by rw [hk1]; rfl
    rw [hkk]
    have hnl : l ≠ w1 := own_ne h1 h2 h2 h3
    have hnle : le ≠ w1 := own_ne h1 h2 h5 h6
    have hne' : e ≠ w1 := fun q => by
      rw [q, h1] at h4
      have := congrArg List.length (HO.lst.inj (Option.some.inj h4))
      simp at this
    have hbw : ¬ b = w1 := fun q => by
      obtain ⟨g, z, hb⟩ := b'
      rw [q, h1] at hb
      cases hb
    have h1s := s11 _ _ h1
    have tw := (same_ts s11).trans (up_lst (l' := [V.ref l, .int (O1.many : Int), .int (O1.kept : Int), .int (O1.page : Int), .int (O1.term : Int), .ref e]) h1s)
    have Fw : ∀ {a : Addr} {o : HO}, a ≠ w1 → H11 a = some o → upd H11 w1 (.lst [V.ref l, .int (O1.many : Int), .int (O1.kept : Int), .int (O1.page : Int), .int (O1.term : Int), .ref e]) a = some o := fun hn ha => by rw [upd_ne hn]; exact ha
    have OA : OwAt w1 O1 (upd H11 w1 (.lst [V.ref l, .int (O1.many : Int), .int (O1.kept : Int), .int (O1.page : Int), .int (O1.term : Int), .ref e])) :=
      ⟨l, e, le, xs, ys, upd_same, Fw hnl (s11 _ _ h2), h3.up tw, Fw hne' (s11 _ _ h4), Fw hnle (s11 _ _ h5), h6.up tw⟩
    have JA := (J'.up s11).lst h1s (ys := [V.ref l, .int (O1.many : Int), .int (O1.kept : Int), .int (O1.page : Int), .int (O1.term : Int), .ref e])
    have BA : Bx b (upd H11 w1 (.lst [V.ref l, .int (O1.many : Int), .int (O1.kept : Int), .int (O1.page : Int), .int (O1.term : Int), .ref e])) := let ⟨g, z, hb⟩ := b'; ⟨g, z, Fw hbw (s11 _ _ hb)⟩
    have XA : Sx (ex3 b j w1) H (upd H11 w1 (.lst [V.ref l, .int (O1.many : Int), .int (O1.kept : Int), .int (O1.page : Int), .int (O1.term : Int), .ref e])) := (X'.trans (sx_same s11)).trans sx3_w
    show Ends.nx _ _ (upd H11 w1 (.lst [V.ref l, .int (O1.many : Int), .int (O1.kept : Int), .int (O1.page : Int), .int (O1.term : Int), .ref e]))
    clear Fw tw
    generalize upd H11 w1 (.lst [V.ref l, .int (O1.many : Int), .int (O1.kept : Int), .int (O1.page : Int), .int (O1.term : Int), .ref e]) = HA at OA JA BA XA ⊢
    clear h1 h2 h3 h4 h5 h6 h11 h1s s11 J' O' b' X' hnl hnle hne'
    obtain ⟨l, e, le, xs, ys, h1, h2, h3, h4, h5, h6⟩ := id OA
    obtain ⟨hp, pg, q0, q1, td, g1, g2, g3, g4, g5⟩ := id JA
    rw [hI1.pg, hI1.tm, hI1.kp] at g1
    rw [hI1.rw] at g5
    -- told
    refine ⟨_, rfl, j, _, dx, _, _, rfl, g1, T.c_Journal, T.n_Journal_page, jl_page _ _ _ _ _, _, rfl, j, _, dx, _, _, rfl, g1, T.c_Journal, T.n_Journal_term, jl_term _ _ _ _ _, _, rfl, j, _, dx, _, _, rfl, g1, T.c_Journal, T.n_Journal_told, jl_told _ _ _ _ _, _, rfl, j, _, dx, _, _, rfl, g1, T.c_Journal, T.n_Journal_kept, jl_kept _ _ _ _ _, sz16 (by show 4 ≤ 16777216; decide), fun tt htt => ?_⟩
    have c1 := same_upd htt (o := .tup [.int (O1.page : Int), .int (O1.term : Int), td, .int (O1.kept : Int)])
    have htt1 := upd_same (H := HA) (a := tt) (o := .tup [.int (O1.page : Int), .int (O1.term : Int), td, .int (O1.kept : Int)])
    -- plain_journal
    obtain ⟨r0, r1, bb1, P0, P1, hbest, _, hbl, hI2, _, _⟩ := hI1.cutOk (by omega) 0 (by rw [hk1]; omega)
    have hcut0 : S1.cut1 0 = S1 := by
      unfold Js.cut1
      rw [hI1.kp, hk1, Nat.add_zero, ← hI1.cur, List.take_length, put_same]
    rw [hcut0] at P0 P1 hbl hI2
    rw [ebh] at hbest hbl hI2
    rw [ecut] at hI2
    have hbb : bb1 = O1.kept := by
      have := hI2.kp
      exact this
    subst hbb
    refine ⟨_, rfl, j, _, dx, _, _, rfl, c1 _ _ g1, T.c_Journal, T.n_Journal_pages, jl_pages _ _ _ _ _, pg, q0, q1, S1.p0, S1.p1, r0, r1, O1.page, O1.term, O1.rows, O1.kept, rfl, .inr (c1 _ _ g2), .inr (c1 _ _ g3), .inr (c1 _ _ g4), P0, P1, hbest, fun pp vv H13 s13 hv hp13 => ?_⟩
    have shR := sh_rows20 hI1.rl (by omega)
    have hk9 : O1.kept < 10 ^ 9 := by rw [hk1]; omega
    have shP := sh4t (x := O1.page) (y := O1.term) (z := O1.kept) shR (by decide) (by omega) (by omega) hk9
    obtain ⟨k1, k2, k3⟩ := rk shP (by decide) (by decide)
    have c13 := c1.trans s13
    refine ⟨_, _, rfl, .tup (SqT.of hp13) (.cons (.int _) (.cons (.int _) (.cons (hv.dp _ _) (.cons (.int _) .nil)))), k1, k2, k3, fun b z => (by cases z), (fun z => by cases z), fun z y => (by cases y), ?_⟩
    refine ⟨_, rfl, w1, _, _, _, rfl, rfl, SqL.of (c13 _ _ h1), at3 _ _ _ _ _ _, _, rfl, w1, _, _, _, rfl, rfl, SqL.of (c13 _ _ h1), at4 _ _ _ _ _ _, _, rfl, w1, _, _, _, rfl, rfl, SqL.of (c13 _ _ h1), at0, l, xs, rfl, .inl (c13 _ _ h2), fun t14 H14 s14 ht14 => ?_⟩
    have c14 := c13.trans s14
    refine ⟨_, rfl, w1, _, _, _, rfl, rfl, SqL.of (c14 _ _ h1), at2 _ _ _ _ _ _, sz16 (by show 4 ≤ 16777216; decide), fun p15 hp15 => ?_⟩
    have s15 := same_upd hp15 (o := .tup [.int (O1.page : Int), .int (O1.term : Int), .ref t14, .int (O1.kept : Int)])
    have c15 := c14.trans s15
    refine ⟨_, _, rfl, .tup (SqT.of upd_same) (.cons (.int _) (.cons (.int _) (.cons (Rp.dp (.tuple O1.rows) _ (.tup (s15 _ _ ht14) (h3.up (same_ts c15)))) (.cons (.int _) .nil)))), k1, k2, k3, fun b z => (by cases z), (fun z => by cases z), fun z y => (by cases y), rfl, _, rfl, ?_⟩
    rw [decide_eq_true rfl]
    refine iteF ?_
    clear k1 k2 k3
    generalize upd H14 p15 (.tup [.int (O1.page : Int), .int (O1.term : Int), .ref t14, .int (O1.kept : Int)]) = H15 at s15 c15 ⊢
    -- opened anew
    refine tn_asg ?_
    refine tc1 ?_
    refine lc_itup (a := pg) (xs := [.ref q0, .ref q1]) (fun R hR => ⟨_, rfl, j, _, dx, _, _, rfl, c15 _ _ g1, T.c_Journal, T.n_Journal_pages, jl_pages _ _ _ _ _, hR⟩) (c15 _ _ g2) (by show 2 < 16777216; decide) (fun D i acc H' => (i = 0 ∧ acc = []) ∨ (i = 1 ∧ ∃ a0, a0 ≠ D ∧ acc = [.ref a0] ∧ H' a0 = some (.lst (nts S1.p0))) ∨ (i = 2 ∧ ∃ a0 a1, a0 ≠ D ∧ a1 ≠ D ∧ acc = [.ref a0, .ref a1] ∧ H' a0 = some (.lst (nts S1.p0)) ∧ H' a1 = some (.lst (nts S1.p1))))
      (fun D hD => .inl ⟨rfl, rfl⟩) ?_ ?_ ?_
    · rintro D i acc Hx lx lx' hx (⟨e1, e2⟩ | ⟨e1, a0, e2, e3, e4⟩ | ⟨e1, a0, a1, e2, e3, e4, e5, e6⟩)
      · exact .inl ⟨e1, e2⟩
      · exact .inr (.inl ⟨e1, a0, e2, e3, by rw [upd_ne e2]; exact e4⟩)
      · exact .inr (.inr ⟨e1, a0, a1, e2, e3, e4, by rw [upd_ne e2]; exact e5, by rw [upd_ne e3]; exact e6⟩)
    · rintro D i v acc Hx hD hv2 sx hDx hlen hP Q1 hq1
      have c3x := c15.trans sx
      have hi2 := (List.getElem?_eq_some_iff.mp hv2).1
      simp at hi2
      have : i = 0 ∨ i = 1 := by omega
      rcases this with rfl | rfl
      · have ev := (Option.some.inj hv2).symm
        subst ev
        refine ⟨_, rfl, q0, _, rfl, .inr (c3x _ _ g3), fun l0 hl0 => ?_⟩
        refine hq1 _ _ (same_upd hl0) (.inr (.inl ⟨rfl, l0, (fun z => by rw [z, hDx] at hl0; cases hl0), ?_, upd_same⟩))
        rw [List.eq_nil_of_length_eq_zero hlen]
        rfl
      · have ev := (Option.some.inj hv2).symm
        subst ev
        rcases hP with ⟨e1, _⟩ | ⟨_, a0, e2, e3, e4⟩ | ⟨e1, _⟩
        · cases e1
        · refine ⟨_, rfl, q1, _, rfl, .inr (c3x _ _ g4), fun l1 hl1 => ?_⟩
          refine hq1 _ _ (same_upd hl1) (.inr (.inr ⟨rfl, a0, l1, e2, (fun z => by rw [z, hDx] at hl1; cases hl1), (by rw [e3]; rfl), same_upd hl1 _ _ e4, upd_same⟩))
        · cases e1
    · rintro D acc H16 hlen s16 hD16 (⟨e1, _⟩ | ⟨e1, _⟩ | ⟨_, a0, a1, e2, e3, rfl, e5, e6⟩)
      · cases e1
      · cases e1
      have c16 := c15.trans s16
      have ebl : O1.kept ≤ (if O1.page = 0 then S1.p0 else S1.p1).length := hbl
      refine ⟨D, a0, a1, S1.p0, S1.p1, r0, r1, O1.page, O1.term, O1.rows, O1.kept, rfl, hD16, .inl e5, .inl e6, P0, P1, hbest, hp11, ebl, fun j2 dx2 H17 s17 hj2 J17 => ?_⟩
      have c17 := c16.trans s17
      have ecur : S1.cur.length = O1.kept := by rw [hI1.cur, hk1]
      obtain ⟨ep0, ep1⟩ := goto_pages (S := S1) (t := O1.term) (rows := O1.rows) ecur
      rw [hI1.pg] at ep0 ep1
      obtain ⟨_, pga, qa0, qa1, tda, f1, f2, f3, f4, f5⟩ := id J17
      rw [goto_page, goto_term] at f1
      rw [ep0] at f3
      rw [ep1] at f4
      rw [goto_rows] at f5
      have f1' : H17 j2 = some (.ins (cJ K) dx2 (jf pga (O1.page : Int) (O1.term : Int) tda (O1.kept : Int))) := f1
      have hl0 : S1.p0.length ≤ 10000 ∧ S1.p1.length ≤ 10000 := by
        have hcl : S1.cur.length ≤ 1400 := by rw [hI1.cur]; exact hpl1
        unfold Js.cur at hcl
        unfold Js.oth at ho'
        by_cases z : S1.page = 0
        · rw [if_pos z] at hcl ho'
          exact ⟨by omega, by omega⟩
        · rw [if_neg z] at hcl ho'
          exact ⟨by omega, by omega⟩
      have shG := sh5 (x := O1.page) (y := O1.term) (z := O1.kept) (sh_pages P0.1 P1.1 hl0.1 hl0.2) shR (by omega) (by omega) hk9
      obtain ⟨k1, k2, k3⟩ := rk shG (by decide) (by decide)
      have sz5 : 5 ≤ sizeLine := sz16 (by decide)
      refine ⟨_, rfl, j2, _, dx2, _, _, rfl, f1', T.c_Journal, T.n_Journal_pages, jl_pages _ _ _ _ _, _, rfl, j2, _, dx2, _, _, rfl, f1', T.c_Journal, T.n_Journal_page, jl_page _ _ _ _ _, _, rfl, j2, _, dx2, _, _, rfl, f1', T.c_Journal, T.n_Journal_term, jl_term _ _ _ _ _, _, rfl, j2, _, dx2, _, _, rfl, f1', T.c_Journal, T.n_Journal_told, jl_told _ _ _ _ _, _, rfl, j2, _, dx2, _, _, rfl, f1', T.c_Journal, T.n_Journal_kept, jl_kept _ _ _ _ _, sz5, fun p18 hp18 => ?_⟩
      have s18 := same_upd hp18 (o := .lst [.ref pga, .int (O1.page : Int), .int (O1.term : Int), tda, .int (O1.kept : Int)])
      have c18 := c17.trans s18
      refine ⟨_, _, rfl, .lst (SqL.of upd_same) (.cons (.tup (SqT.of (s18 _ _ f2)) (.cons (.tup (SqT.of (s18 _ _ f3)) ((RpAll.nts _).dp _ _)) (.cons (.tup (SqT.of (s18 _ _ f4)) ((RpAll.nts _).dp _ _)) .nil))) (.cons (.int _) (.cons (.int _) (.cons ((f5.up (same_ts s18)).dp _ _) (.cons (.int _) .nil))))), k1, k2, k3, fun b z => (by cases z), (fun z => by cases z), fun z y => (by cases y), ?_⟩
      have ht18 := (((((s13.trans s14).trans s15).trans s16).trans s17).trans s18) _ _ htt1
      have t1 : ∀ (x0 x1 x2 x3 : V), atI [x0, x1, x2, x3] 1 = some x1 := fun _ _ _ _ => rfl
      have t2 : ∀ (x0 x1 x2 x3 : V), atI [x0, x1, x2, x3] 2 = some x2 := fun _ _ _ _ => rfl
      have t3 : ∀ (x0 x1 x2 x3 : V), atI [x0, x1, x2, x3] 3 = some x3 := fun _ _ _ _ => rfl
      refine ⟨_, rfl, j, _, dx, _, _, rfl, c18 _ _ g1, T.c_Journal, T.n_Journal_pages, jl_pages _ _ _ _ _, _, rfl, tt, _, _, _, rfl, rfl, SqT.of ht18, at0, _, rfl, tt, _, _, _, rfl, rfl, SqT.of ht18, t1 _ _ _ _, _, rfl, tt, _, _, _, rfl, rfl, SqT.of ht18, t2 _ _ _ _, _, rfl, tt, _, _, _, rfl, rfl, SqT.of ht18, t3 _ _ _ _, sz5, fun p19 hp19 => ?_⟩
      have s19 := same_upd hp19 (o := .lst [.ref pg, .int (O1.page : Int), .int (O1.term : Int), td, .int (O1.kept : Int)])
      have c19 := c18.trans s19
      have ht19 := s19 _ _ ht18
      refine ⟨_, _, rfl, .lst (SqL.of upd_same) (.cons (.tup (SqT.of (c19 _ _ g2)) (.cons (.tup (SqT.of (c19 _ _ g3)) ((RpAll.nts _).dp _ _)) (.cons (.tup (SqT.of (c19 _ _ g4)) ((RpAll.nts _).dp _ _)) .nil))) (.cons (.int _) (.cons (.int _) (.cons ((g5.up (same_ts c19)).dp _ _) (.cons (.int _) .nil))))), k1, k2, k3, fun b z => (by cases z), (fun z => by cases z), fun z y => (by cases y), rfl, _, rfl, ?_⟩
      rw [decide_eq_true rfl]
      refine iteF ?_
      clear k1 k2 k3
      generalize upd (upd H17 p18 (.lst [.ref pga, .int (O1.page : Int), .int (O1.term : Int), tda, .int (O1.kept : Int)])) p19 (.lst [.ref pg, .int (O1.page : Int), .int (O1.term : Int), td, .int (O1.kept : Int)]) = H19 at s19 c19 ht19 ⊢
      -- a second cut
      have J19 := JA.up c19
      have gj19 := c19 _ _ g1
      refine ⟨_, rfl, j, dx, _, rfl, gj19, jn_cut _ _ _ _ _, j, dx, S1, 0, r0, r1, O1.page, O1.term, O1.rows, O1.kept, rfl, J19, by rw [hI1.cur, hI1.kp, hk1]; exact Nat.le_refl _, by rw [hcut0]; exact P0, by rw [hcut0]; exact P1, hbest, hp11, by rw [hcut0]; exact hbl, fun H20 x20 J20 => ?_⟩
      rw [hcut0] at J20
      have ht20 := sx_ts gj19 x20 _ _ ht19
      have O20 := (OA.up c19).ins gj19 x20
      have B20 := (BA.up c19).ins gj19 x20
      have X20 : Sx (ex3 b j w1) H H20 := (XA.trans (sx_same c19)).trans (sx3_j x20)
      have rtd := (g5.up (same_ts c19)).up (sx_ts gj19 x20)
      obtain ⟨_, pgb, qb0, qb1, tdb, m1, m2, m3, m4, m5⟩ := id J20
      rw [goto_page, goto_term] at m1
      rw [goto_rows] at m5
      have m1' : H20 j = some (.ins (cJ K) dx (jf pgb (O1.page : Int) (O1.term : Int) tdb (O1.kept : Int))) := m1
      refine ⟨_, rfl, j, _, dx, _, _, rfl, m1', T.c_Journal, T.n_Journal_page, jl_page _ _ _ _ _, _, rfl, j, _, dx, _, _, rfl, m1', T.c_Journal, T.n_Journal_term, jl_term _ _ _ _ _, _, rfl, j, _, dx, _, _, rfl, m1', T.c_Journal, T.n_Journal_told, jl_told _ _ _ _ _, _, rfl, j, _, dx, _, _, rfl, m1', T.c_Journal, T.n_Journal_kept, jl_kept _ _ _ _ _, sz16 (by show 4 ≤ 16777216; decide), fun p21 hp21 => ?_⟩
      have s21 := same_upd hp21 (o := .tup [.int (O1.page : Int), .int (O1.term : Int), tdb, .int (O1.kept : Int)])
      obtain ⟨z1, z2⟩ := shaped4 (x := (O1.page : Int)) (y := (O1.term : Int)) (z := (O1.kept : Int)) (rowsOk hI1.rl)
      refine ⟨_, rfl, _, _, .tup (SqT.of upd_same) (.cons (.int _) (.cons (.int _) (.cons ((m5.up (same_ts s21)).dp _ _) (.cons (.int _) .nil)))), .tup (SqT.of (s21 _ _ ht20)) (.cons (.int _) (.cons (.int _) (.cons ((rtd.up (same_ts s21)).dp _ _) (.cons (.int _) .nil)))), z1, z1, ?_⟩
      rw [z2]
      refine k _ O1 _ (X20.trans (sx_same s21)) (B20.up s21) (J20.up s21) (O20.up s21) hI2 ?_
      rw [← hI1.pg, goto_oth]
      exact ho'
end
end K53

set_option Elab.async false
set_option linter.all false
set_option maxRecDepth 100000
set_option maxHeartbeats 8000000
/-! the law -/
namespace K53
open PySem PySem.Spec PyProof.Rows L2
def spLawF (K : PySem.W.Frag) : Sp := fun vs H Q _ => ∃ (a : Addr) (ns : List Int), vs = [.ref a] ∧ SqL K H a (ns.map V.int) ∧ ns.length ≤ 63 ∧ ∀ H', Q (.bl true) H'
/-- between the turns -/
def LawAt (K : PySem.W.Frag) (H : Hp) (a : Addr) (kk : Int) (b j dx : Addr) (N : Nat) (σ : L2.St) (H' : Hp) : Prop := ∃ (w : Addr) (S : Js) (O : Ow) (u5 u6 u7 u8 : Option V), σ = [some (.ref a), some (.int kk), some (.ref b), some (.ref j), some (.ref w), u5, u6, u7, u8] ∧
  Same H H' ∧ H w = none ∧ Bx b H' ∧ JAt K j dx S H' ∧ OwAt w O H' ∧ Inv2 N S O ∧ S.oth.length ≤ 1400
theorem same_ex3 {H H1 H2 : Hp} {b j w : Addr} (s : Same H H1) (hb : H b = none) (hj : H j = none) (hw : H w = none) (x : Sx (ex3 b j w) H1 H2) : Same H H2 := fun c o e => x c o (fun z => by
  rcases z with z | z | z
  · rw [z, hb] at e; cases e
  · rw [z, hj] at e; cases e
  · rw [z, hw] at e; cases e) (s c o e)
theorem fresh_of {H H1 : Hp} {p : Addr} (s : Same H H1) (h : H1 p = none) : H p = none := by
  cases z : H p with
  | none => rfl
  | some u => rw [s _ _ z] at h; cases h
theorem lc_rngC {ta : TA} {te : TE} {σ : L2.St} {H0 : Hp} {Q : VK} {k : Nat} (Pr : Nat → Hp → Prop) (h : ∀ R : List V → Hp → Prop, (∀ (n : Nat) H, Pr n H → R [.int (n : Int)] H) → ta σ H0 R)
    (rest : ∀ (n : Nat) H, Pr n H → tLc (iRng1 (fun _ H' R => R [.int (n : Int)] H')) (gName k) tYes te [k] σ H Q) : tLc (iRng1 ta) (gName k) tYes te [k] σ H0 Q := h _ fun n H hp => rest n H hp
/-- [e for x in a list], the list's place known -/
theorem lc_isq {K : PySem.W.Frag} {i k : Nat} {te : TE} {σ : L2.St} {H : Hp} {Q : VK} {a : Addr} {xs : List V} (e : σ[i]? = some (some (.ref a))) (ha : H a = some (.lst xs)) (hn : xs.length < 16777216)
    (P : Addr → Nat → List V → Hp → Prop) (h0 : ∀ D, H D = none → P D 0 [] (upd H D (.lst []))) (mono : ∀ D j acc H1 l l', H1 D = some (.lst l) → P D j acc H1 → P D j acc (upd H1 D (.lst l')))
    (step : ∀ D j v acc H1, H D = none → xs[j]? = some v → Same H H1 → H1 D = some (.lst acc) → acc.length = j → P D j acc H1 → ∀ Q1 : VK, (∀ x H4, Same H1 H4 → P D (j + 1) (acc ++ [x]) H4 → Q1 x H4) → te (σ.set k (some v)) H1 Q1)
    (last : ∀ D acc H', acc.length = xs.length → Same H H' → H' D = some (.lst acc) → P D xs.length acc H' → Q (.ref D) H') : tLc (iSqv K i) (gName k) tYes te [k] σ H Q := by
  refine ⟨a, xs, e, .inl ⟨SqL.of ha, fun D hD => ?_⟩⟩
  refine lc_it walk_list (fun j H' => ∃ acc, acc.length = j ∧ Same H H' ∧ H' D = some (.lst acc) ∧ P D j acc H') ⟨[], rfl, same_upd hD, upd_same, h0 D hD⟩ (fun j H' _ ⟨acc, _, s, _⟩ => SqL.of (s _ _ ha)) ?_ (fun H' ⟨acc, h1, h2, h3, h4⟩ => last D acc H' h1 h2 h3 h4)
  rintro j x H1 H2 hj ⟨acc, h1, h2, h3, h4⟩ ⟨rfl, y⟩
  have e : wipe σ [k] = σ.set k none := rfl
  refine ⟨by show ((σ.set k none).set k (some x)).set k none = σ.set k none; rw [List.set_set, List.set_set], ?_⟩
  unfold tYes
  dsimp only
  rw [if_pos rfl, e, List.set_set]
  refine step D j x acc _ hD y h2 h3 h1 h4 _ fun v H4 s4 p4 => ?_
  have hD4 := s4 D _ h3
  have hl : acc.length < 16777216 := by omega
  exact ⟨acc, hD4, Nat.lt_of_lt_of_le hl (sz16 (Nat.le_refl _)), acc ++ [v], by simp [h1], fun b o hb => by rw [upd_ne (ne_of_none hb hD)]; exact s4 _ _ (h2 _ _ hb), upd_same, mono _ _ _ _ _ _ hD4 p4⟩
theorem begin_oth {S : Js} {ds : List PyData} (hp : S.page ≤ 1) : (S.begin ds).oth = S.cur := by
  refine (put_oth ({ S with page := 1 - S.page, term := S.term + 1 } : Js) _).trans ?_
  unfold Js.cur Js.oth
  by_cases z : S.page = 0
  · rw [if_neg (by show ¬ 1 - S.page = 0; omega), if_pos z]
  · rw [if_pos (by show 1 - S.page = 0; omega), if_neg z]
theorem tsq {te : TE} {g : TG} {u : L2.TS} {D : Ends} {σ : L2.St} {H : Hp} (h : te σ H fun x H1 => g x σ H1 (u D)) : tSeq (tAsg te g) u D σ H := h
theorem bx_ts {b : Addr} {H H' : Hp} (hb : Bx b H) (s : Sx (· = b) H H') : TS H H' := fun x xs hx => s _ _ (fun q => by
  obtain ⟨g, z, hb⟩ := hb
  rw [q, hb] at hx
  cases hx) hx
theorem first_pages : SeqAt.shaped (.tuple [octD (pageO 0 0 []), octD []]) = true := by decide +kernel
section
variable {P : Program} {w : World} {K : PySem.W.Frag} {mg : Str → Option Value} {base : Heap}
theorem law_of (T : Tx P K mg) {fd : FuncData} (F : FunD K "law" "law" (defArgs s_law) (defBody s_law) (defScope s_law) [] [] (He.ga K "law") fd) : FnG P w K mg base CX0 20 (He.ga K "law") fd p_law (spLawF K) := by
  obtain ⟨_, G__law_box, b__law_box⟩ := ok__law_box (w := w) (base := base) T
  obtain ⟨_, G_Journal_init, b_Journal_init⟩ := ok_Journal_init (w := w) (base := base) T
  obtain ⟨_, G__law_page, b__law_page⟩ := ok__law_page (w := w) (base := base) T
  obtain ⟨_, G__law_take, b__law_take⟩ := ok__law_take (w := w) (base := base) T
  obtain ⟨_, G__law_row, b__law_row⟩ := ok__law_row (w := w) (base := base) T
  obtain ⟨_, G_Journal_lay, b_Journal_lay, kb_Journal_lay⟩ := ok_Journal_lay (w := w) (base := base) T
  obtain ⟨_, G_Journal_keep, b_Journal_keep⟩ := ok_Journal_keep (w := w) (base := base) T
  obtain ⟨_, G_Journal_begin, b_Journal_begin, kb_Journal_begin⟩ := ok_Journal_begin (w := w) (base := base) T
  obtain ⟨_, G__law_cut_right, b__law_cut_right⟩ := ok__law_cut_right (w := w) (base := base) T
  obtain ⟨_, G__law_is_right, b__law_is_right⟩ := ok__law_is_right (w := w) (base := base) T
  refine funD_okG F sc_law (fun vs H Q E ⟨a, ns, e, _⟩ => by rw [e]; rfl) (fun cdv A outer s H vs Q E gd hr h => ?_)
  obtain ⟨a, ns, rfl, ha, hl, k⟩ := h
  have hq : (A.deeper (envOfC "law" (defScope s_law) s.heap.objs.size (He.ga K "law") cdv)).units + 64 < cLine := by
    have := hr.un
    omega
  have hu := hq
  refine ⟨_, PSs.nox (pss_cons (ps_for PassesOwn.never rfl (pi_range1 rfl T.f_range (pa_cons pe_int pa_nil)) (pg_name (i := 1) sc_law.nd rfl (by first | exact Or.inl rfl | exact Or.inr rfl)) (pss_cons (ps_set (i := 2) sc_law.nd rfl (by first | exact Or.inl rfl | exact Or.inr rfl) (pe_call G__law_box (hr.mono (by decide)) rfl T.g__law_box T.kp__law_box b__law_box .nil pass0 (pa_cons (pv 0) (pa_cons (pv 1) pa_nil))))
      (pss_cons (ps_set (i := 3) sc_law.nd rfl (by first | exact Or.inl rfl | exact Or.inr rfl) (pe_make0 T.k_Journal G_Journal_init (hr.mono (by decide)) rfl T.g_Journal b_Journal_init .nil pass0))
      (pss_cons (ps_set (i := 4) sc_law.nd rfl (by first | exact Or.inl rfl | exact Or.inr rfl) (pe_lst (pa_cons (pe_lst pa_nil) (pa_cons pe_int (pa_cons (pe_callB call_len_seq rfl T.f_len boot_len (pa_cons (pe_call G__law_page (hr.mono (by decide)) rfl T.g__law_page T.kp__law_page b__law_page .nil pass0 (pa_cons pe_int (pa_cons pe_int (pa_cons (pe_lst pa_nil) pa_nil)))) pa_nil)) (pa_cons pe_int (pa_cons pe_int (pa_cons (pe_lst (pa_cons (pe_lst pa_nil) (pa_cons pe_int (pa_cons pe_int pa_nil)))) pa_nil))))))))
      (pss_cons (ps_if (pt_cmpR (op_neD hq) (pe_fld (pv 3) rfl) (pe_tup (pa_cons (pe_call G__law_page (hr.mono (by decide)) rfl T.g__law_page T.kp__law_page b__law_page .nil pass0 (pa_cons pe_int (pa_cons pe_int (pa_cons (pe_lst pa_nil) pa_nil)))) (pa_cons (pe_tup pa_nil) pa_nil))) (nomark _)) (pss_one (ps_ret pe_bl)) pss_nil)
      (pss_one (ps_for PassesOwn.never rfl (pi_range1 rfl T.f_range (pa_cons pe_int pa_nil)) (pg_name (i := 5) sc_law.nd rfl (by first | exact Or.inl rfl | exact Or.inr rfl)) (pss_cons (ps_set (i := 6) sc_law.nd rfl (by first | exact Or.inl rfl | exact Or.inr rfl) (pe_call G__law_take (hr.mono (by decide)) rfl T.g__law_take T.kp__law_take b__law_take .nil pass0 (pa_cons (pv 2) (pa_cons pe_int pa_nil))))
      (Evl.pss_cut (ps_if (pt_cmpR op_lt (pv 6) pe_int (nomark _)) (pss_cons (ps_set (i := 7) sc_law.nd rfl (by first | exact Or.inl rfl | exact Or.inr rfl) (pe_call G__law_row (hr.mono (by decide)) rfl T.g__law_row T.kp__law_row b__law_row .nil pass0 (pa_cons (pv 2) pa_nil)))
      (pss_cons (ps_asg (pe_op op_cat (pe_ix ix_list (pv 4) pe_int (fun _ _ => rfl)) (pe_lst (pa_cons (pv 7) pa_nil))) (pg_sub (pv 4) pe_int set_list))
      (pss_one (ps_if (pt_cmpR op_ne (pe_callB (call_repr gd hu) rfl T.f_repr boot_repr (pa_cons (pe_ifExp (pt_cmpR op_eq (pe_call G__law_take (hr.mono (by decide)) rfl T.g__law_take T.kp__law_take b__law_take .nil pass0 (pa_cons (pv 2) (pa_cons pe_int pa_nil))) pe_int (nomark _)) (pe_meth (pv 3) T.c_Journal T.m_Journal_lay G_Journal_lay (hr.mono (by decide)) b_Journal_lay .nil pass0 (pa_cons (pe_callTy call_lof rfl T.f_list boot_list (pa_cons (pv 7) pa_nil)) pa_nil)) (pe_methK (pv 3) T.c_Journal T.m_Journal_lay G_Journal_lay (hr.mono (by decide)) kb_Journal_lay pass0 (pk_cons (pv 7) pk_nil))) pa_nil)) (pe_callB (call_repr gd hu) rfl T.f_repr boot_repr (pa_cons (pe_callB call_len_seq rfl T.f_len boot_len (pa_cons (pe_ix ix_list (pv 4) pe_int (fun _ _ => rfl)) pa_nil)) pa_nil)) (nomark _)) (pss_one (ps_ret pe_bl)) pss_nil)))) (pss_one (ps_if (pt_cmpR op_eq (pv 6) pe_int (nomark _)) (pss_cons (ps_expr (pe_meth0 (pv 3) T.c_Journal T.m_Journal_keep G_Journal_keep (hr.mono (by decide)) b_Journal_keep .nil pass0))
      (pss_one (ps_asg (pe_callB call_len_seq rfl T.f_len boot_len (pa_cons (pe_call G__law_page (hr.mono (by decide)) rfl T.g__law_page T.kp__law_page b__law_page .nil pass0 (pa_cons (pe_ix ix_list (pv 4) pe_int (fun _ _ => rfl)) (pa_cons (pe_ix ix_list (pv 4) pe_int (fun _ _ => rfl)) (pa_cons (pe_ix ix_list (pv 4) pe_int (fun _ _ => rfl)) pa_nil)))) pa_nil)) (pg_sub (pv 4) pe_int set_list)))) (pss_one (ps_if (pt_cmpR op_lt (pv 6) pe_int (nomark _)) (pss_cons (ps_setLc (i := 8) (own := [("_law_turn", 5)]) rfl sc_law.nd rfl rfl (by first | rfl | exact swaps_true (by rfl) (by rfl) (by rfl) (by rfl)) (pi_range1 rfl T.f_range (pa_cons (pe_call G__law_take (hr.mono (by decide)) rfl T.g__law_take T.kp__law_take b__law_take .nil pass0 (pa_cons (pv 2) (pa_cons pe_int pa_nil))) pa_nil)) (blkOk_by (N := n_law) (sc := defScope s_law) (by decide +kernel)) (fun _ _ _ _ _ => (pg_name (i := 5) sc_law.nd rfl (by first | exact Or.inl rfl | exact Or.inr rfl))) (fun _ _ _ _ _ => pts_nil) (fun _ _ _ _ _ => (pe_call G__law_row (hr.mono (by decide)) rfl T.g__law_row T.kp__law_row b__law_row .nil pass0 (pa_cons (pv 2) pa_nil))))
      (pss_cons (ps_if (pt_cmpR op_notN (pe_ifExp (pt_cmpR op_eq (pe_call G__law_take (hr.mono (by decide)) rfl T.g__law_take T.kp__law_take b__law_take .nil pass0 (pa_cons (pv 2) (pa_cons pe_int pa_nil))) pe_int (nomark _)) (pe_meth (pv 3) T.c_Journal T.m_Journal_begin G_Journal_begin (hr.mono (by decide)) b_Journal_begin .nil pass0 (pa_cons (pe_lc (own := [("_law_row_here", 7)]) rfl sc_law.nd (pi_sqv _ 8) (blkOk_by (N := n_law) (sc := defScope s_law) (by decide +kernel)) (fun _ _ _ _ _ => (pg_name (i := 7) sc_law.nd rfl (by first | exact Or.inl rfl | exact Or.inr rfl))) (fun _ _ _ _ _ => pts_nil) (fun _ _ _ _ _ => (pe_callTy call_lof rfl T.f_list boot_list (pa_cons (pv 7) pa_nil)))) pa_nil)) (pe_methK (pv 3) T.c_Journal T.m_Journal_begin G_Journal_begin (hr.mono (by decide)) kb_Journal_begin pass0 (pk_cons (pe_callTy call_tof rfl T.f_tuple boot_tuple (pa_cons (pv 8) pa_nil)) pk_nil))) pe_non (nomark _)) (pss_one (ps_ret pe_bl)) pss_nil)
      (pss_one (ps_set (i := 4) sc_law.nd rfl (by first | exact Or.inl rfl | exact Or.inr rfl) (pe_lst (pa_cons (pv 8) (pa_cons (pe_callB call_len_seq rfl T.f_len boot_len (pa_cons (pv 8) pa_nil)) (pa_cons pe_int (pa_cons (pe_op op_sub pe_int (pe_ix ix_list (pv 4) pe_int (fun _ _ => rfl))) (pa_cons (pe_op op_add (pe_ix ix_list (pv 4) pe_int (fun _ _ => rfl)) pe_int) (pa_cons (pe_lst (pa_cons (pe_ix ix_list (pv 4) pe_int (fun _ _ => rfl)) (pa_cons (pe_ix ix_list (pv 4) pe_int (fun _ _ => rfl)) (pa_cons (pe_ix ix_list (pv 4) pe_int (fun _ _ => rfl)) pa_nil)))) pa_nil))))))))))) (pss_one (ps_if (pt_not (pt_val (pe_callG gd G__law_cut_right (hr.mono (by decide)) rfl T.g__law_cut_right T.kp__law_cut_right b__law_cut_right pass0 (pa_cons (pv 2) (pa_cons (pv 3) (pa_cons (pv 4) pa_nil)))))) (pss_one (ps_ret pe_bl)) pss_nil)))))))
      (pss_one (ps_if (pt_not (pt_val (pe_callG gd G__law_is_right (hr.mono (by decide)) rfl T.g__law_is_right T.kp__law_is_right b__law_is_right pass0 (pa_cons (pv 3) (pa_cons (pv 4) pa_nil))))) (pss_one (ps_ret pe_bl)) pss_nil)))))))))))
      (pss_one (ps_ret pe_bl))), ?_⟩
  refine ⟨3, rfl, by decide, by decide, for_range (lo := 0) (n := 3) (fun kx σ' H' => Same H H' ∧ ∃ u1 u2 u3 u4 u5 u6 u7 u8, σ' = [some (.ref a), u1, u2, u3, u4, u5, u6, u7, u8]) ⟨Same.refl _, none, none, none, none, none, none, none, none, rfl⟩ ?_ (fun σ' H' ⟨s9, _⟩ => k H')⟩
  rintro kx σ' H' hkx ⟨s0, u1, u2, u3, u4, u5, u6, u7, u8, rfl⟩
  refine ⟨_, rfl, _, rfl, a, ns, kx, (by show [V.ref a, V.int (0 + (kx : Int))] = _; rw [Int.zero_add]), hkx, Same.seq s0 ha, hl, fun b H1 s1 hb0 hb => ?_⟩
  have s01 := s0.trans s1
  have hbH : H b = none := fresh_of s0 hb0
  -- the journal
  intro j dx hj hdx hne
  have hjH : H j = none := fresh_of s01 hj
  have sj := (same_upd hdx (o := .own j)).trans (same_upd (H := upd H1 dx (.own j)) (p := j) (o := .ins (cJ K) dx []) (by rw [upd_ne hne.symm]; exact hj))
  refine ⟨j, dx, rfl, upd_same, fun H2 x2 J2 => ⟨rfl, ?_⟩⟩
  have s02 : Same H H2 := same_ex (s01.trans sj) hjH x2
  have b2 : Bx b H2 := (hb.up sj).ins upd_same x2
  have p0ok : (pageO 0 0 []).length ≤ 16777216 := by decide +kernel
  refine ⟨Nat.zero_le _, fun l0 hl0 => ⟨Nat.zero_le _, fun l1 hl1 => ⟨0, 0, l1, [], [], rfl, upd_same, .nil, (by simp [okAll]), by decide, by decide, p0ok, fun po H3 s3 h3 => ?_⟩⟩⟩
  refine ⟨po, _, rfl, .inr (SqT.of h3), Nat.zero_le _, fun l2 hl2 => ⟨sz16 (by show 3 ≤ 16777216; decide), fun e hle => ⟨sz16 (by show 6 ≤ 16777216; decide), fun w1 hw => ?_⟩⟩⟩
  have v0 := same_upd hl0 (o := .lst [])
  have v1 := same_upd hl1 (o := .lst [])
  have v2 := same_upd hl2 (o := .lst [])
  have v3 := same_upd hle (o := .lst [.ref l2, .int 0, .int 0])
  have v4 := same_upd hw (o := .lst [.ref l0, .int 0, .int ((nts (pageO 0 0 [])).length : Int), .int 0, .int 0, .ref e])
  have v24 := (v2.trans v3).trans v4
  have c24 : Same H2 _ := ((v0.trans v1).trans s3).trans v24
  have hO : OwAt w1 O0 (upd (upd (upd H3 l2 (.lst [])) e (.lst [.ref l2, .int 0, .int 0])) w1 (.lst [.ref l0, .int 0, .int ((nts (pageO 0 0 [])).length : Int), .int 0, .int 0, .ref e])) := by
    refine ⟨l0, e, l2, [], [], ?_, v24 _ _ (s3 _ _ (v1 _ _ upd_same)), .nil, v4 _ _ upd_same, (v3.trans v4) _ _ upd_same, .nil⟩
    rw [nts_len]
    exact upd_same
  have hJ := J2.up c24
  have hB := b2.up c24
  have hwH : H w1 = none := fresh_of (s02.trans (((v0.trans v1).trans s3).trans (v2.trans v3))) hw
  have s04 := s02.trans c24
  show Ends.nx _ _ (upd (upd (upd H3 l2 (.lst [])) e (.lst [.ref l2, .int 0, .int 0])) w1 (.lst [.ref l0, .int 0, .int ((nts (pageO 0 0 [])).length : Int), .int 0, .int 0, .ref e]))
  clear v0 v1 v2 v3 v4 v24 c24
  generalize upd (upd (upd H3 l2 (.lst [])) e (.lst [.ref l2, .int 0, .int 0])) w1 (.lst [.ref l0, .int 0, .int ((nts (pageO 0 0 [])).length : Int), .int 0, .int 0, .ref e]) = H4 at hO hJ hB s04 ⊢
  -- its pages
  obtain ⟨_, pg, q0, q1, td, g1, g2, g3, g4, g5⟩ := id hJ
  refine ⟨_, rfl, j, _, dx, _, _, rfl, g1, T.c_Journal, T.n_Journal_pages, jl_pages _ _ _ _ _, Nat.zero_le _, fun l4 hl4 => ⟨0, 0, l4, [], [], rfl, upd_same, .nil, (by simp [okAll]), by decide, by decide, p0ok, fun po2 H5 s5 h5 => ?_⟩⟩
  refine ⟨Nat.zero_le _, fun t6 ht6 => ⟨sz2, fun t7 ht7 => ?_⟩⟩
  have v5 := (same_upd hl4 (o := .lst [])).trans s5
  have v6 := same_upd ht6 (o := .tup [])
  have v7 := same_upd ht7 (o := .tup [.ref po2, .ref t6])
  have v57 := (v5.trans v6).trans v7
  have e8 := SeqAt.eqv_refl _ (SeqAt.canLay_of_shaped first_pages)
  refine ⟨.tuple [octD (pageO 0 0 []), octD []], .tuple [octD (pageO 0 0 []), octD []], .tup (SqT.of (v57 _ _ g2)) (.cons (.tup (SqT.of (v57 _ _ g3)) ((RpAll.nts _).dp _ _)) (.cons (.tup (SqT.of (v57 _ _ g4)) .nil) .nil)), .tup (SqT.of upd_same) (.cons (.tup (SqT.of ((v6.trans v7) _ _ h5)) ((RpAll.nts _).dp _ _)) (.cons (.tup (SqT.of (v7 _ _ upd_same)) .nil) .nil)), first_pages, first_pages, _, rfl, ?_⟩
  rw [e8]
  refine iteF ?_
  refine ⟨9, rfl, by decide, by decide, for_range (lo := 0) (n := 9) (fun i σ' H' => LawAt K H a (0 + (kx : Int)) b j dx (i + 2) σ' H') ⟨w1, S0, O0, u5, u6, u7, u8, rfl, s04.trans v57, hwH, hB.up v57, hJ.up v57, hO.up v57, inv_init.room (by decide), by decide +kernel⟩ ?_ ?_⟩
  · rintro i σ' H' hi ⟨w2, S, O, u5, u6, u7, u8, rfl, sH, hw2, bH, JH, OH, IH, oth⟩
    have hbl : ∀ {H' : Hp} {p : Addr}, Bx b H' → H' p = none → p ≠ b := fun ⟨g, z, hb⟩ hp e => by rw [e, hb] at hp; cases hp
    refine ⟨_, rfl, b, 8, rfl, bH, by decide, by decide, fun way H1 hway s1 hb1 => ?_⟩
    have J1 := JH.bx bH s1
    have O1 := OH.bx bH IH.rl IH.el s1
    have S1 := same_ex sH hbH s1
    clear JH OH sH bH s1
    have rn := IH.rn
    have en := IH.en
    have tn := IH.tn
    have many := IH.many
    have hp1 := IH.p1
    have hpl : (formAll O.W).length ≤ 1400 := by
      have := page_len (t := O.term) (m := O.many) (l := O.rows) (by omega) (by omega) IH.rl
      show (pageO O.term O.many O.rows).length ≤ 1400
      omega
    have at1 : ∀ (x0 x1 x2 x3 x4 x5 : V), atI [x0, x1, x2, x3, x4, x5] 1 = some x1 := fun _ _ _ _ _ _ => rfl
    have at3 : ∀ (x0 x1 x2 x3 x4 x5 : V), atI [x0, x1, x2, x3, x4, x5] 3 = some x3 := fun _ _ _ _ _ _ => rfl
    have at4 : ∀ (x0 x1 x2 x3 x4 x5 : V), atI [x0, x1, x2, x3, x4, x5] 4 = some x4 := fun _ _ _ _ _ _ => rfl
    refine ⟨fun σ' H' => LawAt K H a (0 + (kx : Int)) b j dx (i + 3) σ' H', ?_, ?_⟩
    · refine ⟨_, rfl, _, _, rfl, rfl, _, rfl, ?_⟩
      by_cases w3 : way < 3
      · -- a row laid
        rw [decide_eq_true (by omega)]
        refine iteT ⟨_, rfl, b, rfl, hb1, fun v d H2 s2 hb2 hv hd => ?_⟩
        have J2 := J1.bx hb1 s2
        have O2 := O1.bx hb1 IH.rl IH.el s2
        have S2 := same_ex S1 hbH s2
        obtain ⟨l, e, le, xs, ys, h1, h2, h3, h4, h5, h6⟩ := id O2
        have hnl : l ≠ w2 := own_ne h1 h2 h2 h3
        have hnle : le ≠ w2 := own_ne h1 h2 h5 h6
        have hne : e ≠ w2 := fun q => by
          rw [q, h1] at h4
          have := congrArg List.length (HO.lst.inj (Option.some.inj h4))
          simp at this
        have hbw : ¬ b = w2 := fun q => by
          obtain ⟨g, z, hb⟩ := hb2
          rw [q, h1] at hb
          cases hb
        refine ⟨_, rfl, w2, _, _, _, rfl, rfl, SqL.of h1, at0, _, rfl, sz1, fun l5 hl5 => ⟨l, l5, xs, [v], rfl, rfl, same_upd hl5 _ _ h2, upd_same, ?_, fun L hL => ?_⟩⟩
        · rw [h3.len]; exact sz16 (by show O.rows.length + 1 ≤ 16777216; omega)
        have v1 := same_upd hl5 (o := .lst [v])
        have v2 := same_upd hL (o := .lst (xs ++ [v]))
        have v12 := v1.trans v2
        refine ⟨_, rfl, w2, _, 0, 0, rfl, rfl, v12 _ _ h1, rfl, ?_⟩
        have h1v := v12 _ _ h1
        have hLw : L ≠ w2 := fun q => by
          have := v1 _ _ h1
          rw [q, this] at hL
          cases hL
        have Fw : ∀ {a : Addr} {o : HO}, a ≠ w2 → upd (upd H2 l5 (.lst [v])) L (.lst (xs ++ [v])) a = some o → upd (upd (upd H2 l5 (.lst [v])) L (.lst (xs ++ [v]))) w2 (.lst [.ref L, .int (O.many : Int), .int (O.kept : Int), .int (O.page : Int), .int (O.term : Int), .ref e]) a = some o := fun hn ha => by rw [upd_ne hn]; exact ha
        have tw := (same_ts v12).trans (up_lst (l' := [.ref L, .int (O.many : Int), .int (O.kept : Int), .int (O.page : Int), .int (O.term : Int), .ref e]) h1v)
        have OP0 : OwAt w2 { O with rows := O.rows ++ [d] } (upd (upd (upd H2 l5 (.lst [v])) L (.lst (xs ++ [v]))) w2 (.lst [.ref L, .int (O.many : Int), .int (O.kept : Int), .int (O.page : Int), .int (O.term : Int), .ref e])) :=
          ⟨L, e, le, xs ++ [v], ys, upd_same, Fw hLw upd_same, (h3.up tw).app (RpAll.one (hv.up tw)), Fw hne (v12 _ _ h4), Fw hnle (v12 _ _ h5), h6.up tw⟩
        have JP0 := (J2.up v12).lst h1v (ys := [.ref L, .int (O.many : Int), .int (O.kept : Int), .int (O.page : Int), .int (O.term : Int), .ref e])
        have BP0 : Bx b (upd (upd (upd H2 l5 (.lst [v])) L (.lst (xs ++ [v]))) w2 (.lst [.ref L, .int (O.many : Int), .int (O.kept : Int), .int (O.page : Int), .int (O.term : Int), .ref e])) := let ⟨g, z, hb⟩ := hb2; ⟨g, z, Fw hbw (v12 _ _ hb)⟩
        have SP0 : Same H (upd (upd (upd H2 l5 (.lst [v])) L (.lst (xs ++ [v]))) w2 (.lst [.ref L, .int (O.many : Int), .int (O.kept : Int), .int (O.page : Int), .int (O.term : Int), .ref e])) := same_ex3 (b := b) (j := j) (S2.trans v12) hbH hjH hw2 sx3_w
        have hv0 := hv.up tw
        show Ends.nx _ _ (upd (upd (upd H2 l5 (.lst [v])) L (.lst (xs ++ [v]))) w2 (.lst [.ref L, .int (O.many : Int), .int (O.kept : Int), .int (O.page : Int), .int (O.term : Int), .ref e]))
        clear Fw tw
        generalize upd (upd (upd H2 l5 (.lst [v])) L (.lst (xs ++ [v]))) w2 (.lst [.ref L, .int (O.many : Int), .int (O.kept : Int), .int (O.page : Int), .int (O.term : Int), .ref e]) = H3 at OP0 JP0 BP0 SP0 hv0 ⊢
        clear h1 h2 h3 h4 h5 h6 O2 J2 S2 hb2 v1 v2 v12 h1v
        have hlO : ∀ x ∈ O.rows ++ [d], LR x := fun x hx => by
          rcases List.mem_append.mp hx with q | q
          · exact IH.rl x q
          · rw [List.mem_singleton.mp q]; exact hd
        have hsz : S.cur.length + (form d).length ≤ 16777216 := by
          have := hd.2.1
          rw [IH.cur]
          omega
        have hsr : S.rows.length ≤ 1000 := by rw [IH.rw]; omega
        refine ⟨_, rfl, b, 2, rfl, BP0, by decide, by decide, fun n2 HP hn2 s5 BP => ⟨rfl, _, rfl, ?_⟩⟩
        have JP := JP0.bx BP0 s5
        have OP := OP0.bx BP0 hlO IH.el s5
        have SP := same_ex SP0 hbH s5
        have hvP : Rp HP v d := by
          obtain ⟨g, z, hb⟩ := BP0
          exact hv0.up fun x xs hx => s5 _ _ (fun q => by rw [q, hb] at hx; cases hx) hx
        obtain ⟨_, _, _, _, _, gjP, _⟩ := id JP
        by_cases n0 : n2 = 0
        · rw [decide_eq_true (by rw [n0]; rfl)]
          obtain ⟨xq, dq, edq, _⟩ := id hd.1
          rw [edq] at hvP
          cases hvP with
          | @tup pa zs _ ez rz =>
          have w6 : ∀ l6, HP l6 = none → Same HP (upd HP l6 (.lst zs)) := fun l6 h => same_upd h
          refine iteT ⟨_, rfl, j, dx, _, rfl, gjP, jn_lay _ _ _ _ _, _, rfl, pa, zs, rfl, .inr ez, fun l6 hl6 => ⟨j, dx, .ref l6, S, d, rfl, .inr ⟨l6, zs, _, rfl, edq, upd_same, rz.up (same_ts (w6 l6 hl6))⟩, hd.1, JP.up (w6 l6 hl6), hsz, hsr, fun H7 x7 J7 => ?_⟩⟩
          replace OP := OP.up (w6 l6 hl6)
          replace BP := BP.up (w6 l6 hl6)
          replace SP := SP.trans (w6 l6 hl6)
          replace gjP := w6 l6 hl6 _ _ gjP
          have O7 := OP.ins gjP x7
          have B7 := BP.ins gjP x7
          have S7 := same_ex SP hjH x7
          obtain ⟨l', e', le', xs', ys', f1, f2, f3, f4, f5, f6⟩ := id O7
          have hrn := IH.rn
          have shn := sh_nat (n := S.rows.length + 1) (by rw [IH.rw]; omega)
          obtain ⟨k1, k2, k3⟩ := rk shn (by decide) (by decide)
          refine ⟨_, _, rfl, .int _, k1, k2, k3, fun b z => (by cases z), (fun z => by cases z), fun z y => (by cases y), ?_⟩
          refine ⟨_, rfl, w2, _, _, _, rfl, rfl, SqL.of f1, at0, l', xs', rfl, .inl (SqL.of f2), ?_⟩
          have el : (xs'.length : Int) = ((S.rows.length + 1 : Nat) : Int) := by rw [f3.len, IH.rw]; show (((O.rows ++ [d]).length : Nat) : Int) = _; rw [List.length_append]; rfl
          rw [el]
          refine ⟨_, _, rfl, .int _, k1, k2, k3, fun b z => (by cases z), (fun z => by cases z), fun z y => (by cases y), rfl, _, rfl, ?_⟩
          rw [decide_eq_true rfl]
          exact iteF ⟨w2, S.lay d, _, _, _, _, _, rfl, S7, hw2, B7, J7, O7, IH.lay hd, by rw [show (S.lay d).oth = S.oth from put_oth S _]; exact oth⟩
        · rw [decide_eq_false (fun q => by have := V.int.inj q; omega)]
          refine iteF ⟨_, rfl, j, dx, _, rfl, gjP, jn_lay _ _ _ _ _, _, rfl, j, dx, v, S, d, rfl, .inl hvP, hd.1, JP, hsz, hsr, fun H7 x7 J7 => ?_⟩
          have O7 := OP.ins gjP x7
          have B7 := BP.ins gjP x7
          have S7 := same_ex SP hjH x7
          obtain ⟨l', e', le', xs', ys', f1, f2, f3, f4, f5, f6⟩ := id O7
          have hrn := IH.rn
          have shn := sh_nat (n := S.rows.length + 1) (by rw [IH.rw]; omega)
          obtain ⟨k1, k2, k3⟩ := rk shn (by decide) (by decide)
          refine ⟨_, _, rfl, .int _, k1, k2, k3, fun b z => (by cases z), (fun z => by cases z), fun z y => (by cases y), ?_⟩
          refine ⟨_, rfl, w2, _, _, _, rfl, rfl, SqL.of f1, at0, l', xs', rfl, .inl (SqL.of f2), ?_⟩
          have el : (xs'.length : Int) = ((S.rows.length + 1 : Nat) : Int) := by rw [f3.len, IH.rw]; show (((O.rows ++ [d]).length : Nat) : Int) = _; rw [List.length_append]; rfl
          rw [el]
          refine ⟨_, _, rfl, .int _, k1, k2, k3, fun b z => (by cases z), (fun z => by cases z), fun z y => (by cases y), rfl, _, rfl, ?_⟩
          rw [decide_eq_true rfl]
          exact iteF ⟨w2, S.lay d, _, _, _, _, _, rfl, S7, hw2, B7, J7, O7, IH.lay hd, by rw [show (S.lay d).oth = S.oth from put_oth S _]; exact oth⟩
      · rw [decide_eq_false (by omega)]
        refine iteF ?_
        refine ⟨_, rfl, rfl, _, rfl, ?_⟩
        by_cases w4 : way = 3
        · -- kept
          rw [decide_eq_true (by rw [w4]; rfl)]
          obtain ⟨_, _, _, _, _, gj1, _⟩ := id J1
          refine iteT ⟨_, rfl, j, dx, _, rfl, gj1, jn_keep _ _ _ _ _, j, dx, S, rfl, J1, fun H2 x2 J2 => ?_⟩
          have O2 := O1.ins gj1 x2
          have B2 := hb1.ins gj1 x2
          have S2 := same_ex S1 hjH x2
          obtain ⟨l, e, le, xs, ys, h1, h2, h3, h4, h5, h6⟩ := id O2
          have hnl : l ≠ w2 := own_ne h1 h2 h2 h3
          have hnle : le ≠ w2 := own_ne h1 h2 h5 h6
          have hne : e ≠ w2 := fun q => by
            rw [q, h1] at h4
            have := congrArg List.length (HO.lst.inj (Option.some.inj h4))
            simp at this
          have hbw : ¬ b = w2 := fun q => by
            obtain ⟨g, z, hb⟩ := B2
            rw [q, h1] at hb
            cases hb
          refine ⟨_, rfl, w2, _, _, _, rfl, rfl, SqL.of h1, at4 _ _ _ _ _ _, _, rfl, w2, _, _, _, rfl, rfl, SqL.of h1, at1 _ _ _ _ _ _, _, rfl, w2, _, _, _, rfl, rfl, SqL.of h1, at0, O.term, O.many, l, xs, O.rows, rfl, h2, h3, rowAll_ok (rowsOk IH.rl), by omega, by omega, Nat.le_trans hpl (by decide), fun po H3 s3 h3o => ?_⟩
          refine ⟨po, _, rfl, .inr (SqT.of h3o), _, rfl, w2, _, 2, 2, rfl, rfl, s3 _ _ h1, rfl, ?_⟩
          rw [nts_len]
          have h1s := s3 _ _ h1
          have tw := (same_ts s3).trans (up_lst (l' := [.ref l, .int (O.many : Int), .int ((formAll O.W).length : Int), .int (O.page : Int), .int (O.term : Int), .ref e]) h1s)
          have Fw : ∀ {a : Addr} {o : HO}, a ≠ w2 → H3 a = some o → upd H3 w2 (.lst [.ref l, .int (O.many : Int), .int ((formAll O.W).length : Int), .int (O.page : Int), .int (O.term : Int), .ref e]) a = some o := fun hn ha => by rw [upd_ne hn]; exact ha
          refine ⟨w2, { S with kept := S.cur.length }, { O with kept := (formAll O.W).length }, _, _, _, _, rfl, same_ex3 (b := b) (j := j) (S2.trans s3) hbH hjH hw2 sx3_w, hw2, ?_, (J2.up s3).lst h1s, ⟨l, e, le, xs, ys, upd_same, Fw hnl (s3 _ _ h2), h3.up tw, Fw hne (s3 _ _ h4), Fw hnle (s3 _ _ h5), h6.up tw⟩, (IH.keep (by omega)).room (by omega), oth⟩
          obtain ⟨g, z, hb⟩ := B2
          exact ⟨g, z, Fw hbw (s3 _ _ hb)⟩
        · rw [decide_eq_false (fun q => by have := V.int.inj q; omega)]
          refine iteF ⟨_, rfl, _, _, rfl, rfl, _, rfl, ?_⟩
          by_cases w6 : way < 6
          · -- a page begun
            rw [decide_eq_true (by omega)]
            refine iteT ?_
            refine tsq ?_
            refine lc_rngC (fun n H2 => n < 3 ∧ Sx (· = b) H1 H2 ∧ Bx b H2) (fun R hR => ⟨_, rfl, b, 3, rfl, hb1, by decide, by decide, fun n H2 hn s2 hb2 => hR n H2 ⟨hn, s2, hb2⟩⟩) ?_
            rintro n H2 ⟨hn3, s2, hb2⟩
            have bne : ∀ x, x = b → H2 x ≠ none := fun x hx => by
              obtain ⟨g, z, hb⟩ := hb2
              rw [hx, hb]
              simp
            refine lc_rng n (· = b) (fun R h => h) bne (by omega) (fun _ acc H' => Bx b H' ∧ ∃ ds : List PyData, RpAll H' acc ds ∧ ∀ d ∈ ds, LR d) (fun D hD => ⟨hb2.up (same_upd hD), [], .nil, fun d hd => (by cases hd)⟩) ?_ ?_ ?_
            · rintro t acc H' D l l' hne hD ⟨⟨g, z, hb⟩, ds, r1, r2⟩
              exact ⟨⟨g, z, by rw [upd_ne (fun q => hne q.symm)]; exact hb⟩, ds, r1.up (up_lst hD), r2⟩
            · rintro t acc H' ht s6 hlen ⟨hb', ds, r1, r2⟩ Q1 hq1
              refine ⟨_, rfl, b, rfl, hb', fun v d H4 s4 hb4 hv hd => hq1 _ _ s4 ⟨hb4, ds ++ [d], (r1.up (bx_ts hb' s4)).app (RpAll.one hv), fun x hx => ?_⟩⟩
              rcases List.mem_append.mp hx with q | q
              · exact r2 x q
              · rw [List.mem_singleton.mp q]; exact hd
            rintro D acc H3 hlen s3 hD3 ⟨hb3, ds, r3, hds⟩
            have hdl : ds.length = n := by rw [← r3.len, hlen]
            have J3 := (J1.bx hb1 s2).bx hb2 s3
            have O3 := (O1.bx hb1 IH.rl IH.el s2).bx hb2 IH.rl IH.el s3
            have S3 := same_ex (same_ex S1 hbH s2) hbH s3
            have hpz : (pageO (S.term + 1) ds.length ds).length ≤ 16777216 := by
              have := page_len (t := S.term + 1) (m := ds.length) (l := ds) (by rw [IH.tm]; omega) (by omega) hds
              omega
            refine ⟨_, rfl, b, 2, rfl, hb3, by decide, by decide, fun n2 HP hn2 s5 BP => ⟨rfl, _, rfl, ?_⟩⟩
            have JP := J3.bx hb3 s5
            have OP := O3.bx hb3 IH.rl IH.el s5
            have SP := same_ex S3 hbH s5
            have rP := r3.up (bx_ts hb3 s5)
            have DP : HP D = some (.lst acc) := s5 _ _ (fun q => by
              obtain ⟨g, z, hb⟩ := hb3
              rw [q, hb] at hD3
              cases hD3
              cases rP with
              | @cons _ _ d _ y1 _ =>
                obtain ⟨⟨x, es, e, _⟩, _⟩ := hds _ List.mem_cons_self
                rw [e] at y1
                cases y1) hD3
            clear J3 O3 S3 r3 hD3 hb3 s5
            obtain ⟨_, _, _, _, _, gjP, _⟩ := id JP
            by_cases n0 : n2 = 0
            · rw [decide_eq_true (by rw [n0]; rfl)]
              refine iteT ⟨_, rfl, j, dx, _, rfl, gjP, jn_begin _ _ _ _ _, ?_⟩
              refine tc1 ?_
              refine lc_isq (a := D) (xs := acc) rfl DP (by omega) (fun Dl _ ac H' => ∀ (t : Nat) (v : V) (d : PyData), ac[t]? = some v → ds[t]? = some d → ∃ a xs es, v = .ref a ∧ a ≠ Dl ∧ d = .tuple es ∧ H' a = some (.lst xs) ∧ RpAll H' xs es)
                (fun Dl _ t v d ht => by cases ht) ?_ ?_ ?_
              · rintro Dl t ac Hx lx lx' hDl hP t2 v d hv hd
                obtain ⟨a2, xs2, es, e1, e2, e3, e4, e5⟩ := hP t2 v d hv hd
                exact ⟨a2, xs2, es, e1, e2, e3, by rw [upd_ne e2]; exact e4, e5.up (up_lst hDl)⟩
              · rintro Dl t v ac Hx hDl hv sx hDx hlen2 hP Q1 hq1
                obtain ⟨d, hdt, hrd⟩ := rP.get hv
                obtain ⟨xq, dq, edq, _⟩ := (hds d (List.mem_of_getElem? hdt)).1
                subst edq
                cases hrd with
                | @tup pa zs _ ez rz =>
                refine ⟨_, rfl, pa, zs, rfl, .inr (sx _ _ ez), fun l6 hl6 => hq1 _ _ (same_upd hl6) fun t2 v2 d2 hv2 hd2 => ?_⟩
                by_cases q : t2 < ac.length
                · rw [List.getElem?_append_left q] at hv2
                  obtain ⟨a2, xs2, es, e1, e2, e3, e4, e5⟩ := hP t2 v2 d2 hv2 hd2
                  exact ⟨a2, xs2, es, e1, e2, e3, same_upd hl6 _ _ e4, e5.up (same_ts (same_upd hl6))⟩
                · have hq2 := (List.getElem?_eq_some_iff.mp hv2).1
                  rw [List.length_append, List.length_singleton] at hq2
                  have et : t2 = t := by omega
                  subst et
                  rw [hdt] at hd2
                  cases hd2
                  rw [List.getElem?_append_right (by omega), show t2 - ac.length = 0 by omega] at hv2
                  have ev := (Option.some.inj hv2).symm
                  exact ⟨l6, zs, _, ev, (fun z => by rw [z, hDx] at hl6; cases hl6), rfl, upd_same, (rz.up (same_ts sx)).up (same_ts (same_upd hl6))⟩
              rintro Dl ac H6 hal s6 hDl6 hPl
              have hRq : RqAll H6 ac ds := ⟨by rw [hal, rP.len], fun t v d hv hd => by
                obtain ⟨a2, xs2, es, e1, e2, e3, e4, e5⟩ := hPl t v d hv hd
                exact .inr ⟨a2, xs2, es, e1, e3, e4, e5⟩⟩
              refine ⟨j, dx, Dl, ac, S, ds, rfl, .inl hDl6, hRq, rowsOk hds, JP.up s6, by rw [IH.tm]; omega, by omega, hpz, fun H7 x7 J7 => ⟨rfl, _, rfl, iteF ?_⟩⟩
              replace OP := OP.up s6
              replace BP := BP.up s6
              replace SP := SP.trans s6
              replace rP := rP.up (same_ts s6)
              replace DP := s6 _ _ DP
              replace gjP := s6 _ _ gjP
              have O7 := OP.ins gjP x7
              have B7 := BP.ins gjP x7
              have S7 := same_ex SP hjH x7
              have D7 : H7 D = some (.lst acc) := x7 _ _ (fun q => by rw [q, gjP] at DP; cases DP) DP
              have r7 := rP.up (sx_ts gjP x7)
              obtain ⟨l, e, le, xs, ys, h1, h2, h3, h4, h5, h6⟩ := id O7
              refine ⟨_, rfl, _, rfl, D, acc, rfl, .inl (SqL.of D7), _, rfl, w2, _, _, _, rfl, rfl, SqL.of h1, at3 _ _ _ _ _ _, _, _, rfl, rfl, _, rfl, w2, _, _, _, rfl, rfl, SqL.of h1, at4 _ _ _ _ _ _, _, _, rfl, rfl, _, rfl, w2, _, _, _, rfl, rfl, SqL.of h1, at0, _, rfl, w2, _, _, _, rfl, rfl, SqL.of h1, at4 _ _ _ _ _ _, _, rfl, w2, _, _, _, rfl, rfl, SqL.of h1, at1 _ _ _ _ _ _, sz16 (by show 3 ≤ 16777216; decide), fun e9 he9 => ⟨sz16 (by show 6 ≤ 16777216; decide), fun w9 hw9 => ?_⟩⟩
              have v1 := same_upd he9 (o := .lst [.ref l, .int (O.term : Int), .int (O.many : Int)])
              have v2 := same_upd hw9 (o := .lst [.ref D, .int (acc.length : Int), .int 0, .int (1 - (O.page : Int)), .int ((O.term : Int) + 1), .ref e9])
              have v12 := v1.trans v2
              refine ⟨w9, S.begin ds, { rows := ds, many := ds.length, kept := 0, page := 1 - O.page, term := O.term + 1, er := O.rows, et := O.term, em := O.many }, _, _, _, _, rfl, S7.trans v12, fresh_of (S7.trans v1) hw9, B7.up v12, J7.up v12, ⟨D, e9, l, acc, xs, ?_, v12 _ _ D7, r7.up (same_ts v12), v2 _ _ upd_same, v12 _ _ h2, h3.up (same_ts v12)⟩, IH.begin hds (by omega), ?_⟩
              · have e1 : ((1 - O.page : Nat) : Int) = 1 - (O.page : Int) := by omega
                show upd _ w9 (.lst [.ref D, .int (acc.length : Int), .int 0, .int (1 - (O.page : Int)), .int ((O.term : Int) + 1), .ref e9]) w9 = some (.lst [.ref D, .int (ds.length : Int), .int ((0 : Nat) : Int), .int ((1 - O.page : Nat) : Int), .int ((O.term + 1 : Nat) : Int), .ref e9])
                rw [e1, ← rP.len]
                exact upd_same
              · rw [begin_oth (by rw [IH.pg]; exact hp1), IH.cur]
                exact hpl
            · rw [decide_eq_false (fun q => by have := V.int.inj q; omega)]
              refine iteF ⟨_, rfl, j, dx, _, rfl, gjP, jn_begin _ _ _ _ _, _, rfl, D, acc, rfl, .inl DP, fun tp H6 s6 htp => ?_⟩
              refine ⟨j, dx, tp, acc, S, ds, rfl, .inr htp, (rP.up (same_ts s6)).rq, rowsOk hds, JP.up s6, by rw [IH.tm]; omega, by omega, hpz, fun H7 x7 J7 => ⟨rfl, _, rfl, iteF ?_⟩⟩
              replace OP := OP.up s6
              replace BP := BP.up s6
              replace SP := SP.trans s6
              replace rP := rP.up (same_ts s6)
              replace DP := s6 _ _ DP
              replace gjP := s6 _ _ gjP
              have O7 := OP.ins gjP x7
              have B7 := BP.ins gjP x7
              have S7 := same_ex SP hjH x7
              have D7 : H7 D = some (.lst acc) := x7 _ _ (fun q => by rw [q, gjP] at DP; cases DP) DP
              have r7 := rP.up (sx_ts gjP x7)
              obtain ⟨l, e, le, xs, ys, h1, h2, h3, h4, h5, h6⟩ := id O7
              refine ⟨_, rfl, _, rfl, D, acc, rfl, .inl (SqL.of D7), _, rfl, w2, _, _, _, rfl, rfl, SqL.of h1, at3 _ _ _ _ _ _, _, _, rfl, rfl, _, rfl, w2, _, _, _, rfl, rfl, SqL.of h1, at4 _ _ _ _ _ _, _, _, rfl, rfl, _, rfl, w2, _, _, _, rfl, rfl, SqL.of h1, at0, _, rfl, w2, _, _, _, rfl, rfl, SqL.of h1, at4 _ _ _ _ _ _, _, rfl, w2, _, _, _, rfl, rfl, SqL.of h1, at1 _ _ _ _ _ _, sz16 (by show 3 ≤ 16777216; decide), fun e9 he9 => ⟨sz16 (by show 6 ≤ 16777216; decide), fun w9 hw9 => ?_⟩⟩
              have v1 := same_upd he9 (o := .lst [.ref l, .int (O.term : Int), .int (O.many : Int)])
              have v2 := same_upd hw9 (o := .lst [.ref D, .int (acc.length : Int), .int 0, .int (1 - (O.page : Int)), .int ((O.term : Int) + 1), .ref e9])
              have v12 := v1.trans v2
              refine ⟨w9, S.begin ds, { rows := ds, many := ds.length, kept := 0, page := 1 - O.page, term := O.term + 1, er := O.rows, et := O.term, em := O.many }, _, _, _, _, rfl, S7.trans v12, fresh_of (S7.trans v1) hw9, B7.up v12, J7.up v12, ⟨D, e9, l, acc, xs, ?_, v12 _ _ D7, r7.up (same_ts v12), v2 _ _ upd_same, v12 _ _ h2, h3.up (same_ts v12)⟩, IH.begin hds (by omega), ?_⟩
              · have e1 : ((1 - O.page : Nat) : Int) = 1 - (O.page : Int) := by omega
                show upd _ w9 (.lst [.ref D, .int (acc.length : Int), .int 0, .int (1 - (O.page : Int)), .int ((O.term : Int) + 1), .ref e9]) w9 = some (.lst [.ref D, .int (ds.length : Int), .int ((0 : Nat) : Int), .int ((1 - O.page : Nat) : Int), .int ((O.term + 1 : Nat) : Int), .ref e9])
                rw [e1, ← rP.len]
                exact upd_same
              · rw [begin_oth (by rw [IH.pg]; exact hp1), IH.cur]
                exact hpl
          · -- a cut
            rw [decide_eq_false (by omega)]
            refine iteF ⟨_, rfl, _, rfl, _, rfl, b, j, dx, w2, S, O, i + 2, rfl, hb1, J1, O1, IH, by omega, oth, fun S' O' H2 x2 B2 J2 O2 I2 oth2 => ⟨_, rfl, iteF ?_⟩⟩
            exact ⟨w2, S', O', _, _, _, _, rfl, same_ex3 S1 hbH hjH hw2 x2, hw2, B2, J2, O2, I2.room (by omega), oth2⟩
    · rintro σ' H' ⟨w3, S', O', u5, u6, u7, u8, rfl, sH', hw3, bH', JH', OH', IH', oth'⟩
      refine ⟨_, rfl, _, rfl, j, dx, w3, S', O', i + 3, rfl, JH', OH', IH', by omega, fun H2 s2 => ⟨_, rfl, iteF ?_⟩⟩
      exact ⟨w3, S', O', _, _, _, _, rfl, sH'.trans s2, hw3, bH'.up s2, JH'.up s2, OH'.up s2, IH', oth'⟩
  · rintro σ' H' ⟨w2, S, O, u5, u6, u7, u8, rfl, sH, _⟩
    exact ⟨sH, _, _, _, _, _, _, _, _, rfl⟩
end
end K53

set_option Elab.async false
set_option linter.all false
set_option maxRecDepth 100000
set_option maxHeartbeats 0
/-! the end -/
namespace K53
open PySem PySem.Spec PyProof.Rows L2
theorem facts {w : World} {K : PySem.W.Frag} {h : Heap} {mg : Str → Option Value} {f : Addr} (X : K.In h) (G : h.Ns mainGlobals mg) (hfa : mg ("law" : Str) = some (.ref f)) (c : obK K = (true, brVal, He.valD fn)) :
    ∃ fd : FuncData, (∀ (s : Shared) (v : Value), BindsTo s fd ⟨[v], []⟩ [("_law_script", v)]) ∧ ∀ base : Heap, K.In base → base.Ns mainGlobals mg → FnG R.prog w K mg base CX0 20 f fd ["_law_script"] (spLawF K) := by
  have T : Tx R.prog K mg := tx_of X G c
  obtain ⟨fd, F, _⟩ := T.d_law
  have e := hfa.symm.trans T.g_law
  cases e
  have b := FunD.bindsA (ps := p_law) F fun _ _ _ _ _ _ us hl => match us, hl with | [_], _ => rfl
  exact ⟨fd, fun s v => b s [v] rfl, fun base _ _ => law_of T F⟩
end K53
open PySem PySem.W PySem.Calls PyProof.Rows in
theorem PySem.Challenge.cw_outsoonest_k53_whole_journals_cut_anywhe_holds : PySem.Challenge.rw_outsoonest_k53_whole_journals_cut_anywhe.Holds := by
  w_on; o_law
  refine HandSHeadRun.head_any (r := OpenLaw.row PySem.Challenge.rw_outsoonest_k53_whole_journals_cut_anywhe) (q := view (OpenLaw.row PySem.Challenge.rw_outsoonest_k53_whole_journals_cut_anywhe).prog [60]) (H := K53.hk) (ob := K53.ob) (M := 6000) (loose := K53.lo0 ++ K53.lo1)
    (d := HandSHeadRun.topDef (OpenLaw.row PySem.Challenge.rw_outsoonest_k53_whole_journals_cut_anywhe).prog 60) (kwd := []) K53.ob_eq (by kernel_rfl) (fun s => by kernel_rfl) K53.run (by kernel_rfl) (by kernel_rfl) (by kernel_rfl) (by rfl) (by first | assumption | decide +kernel) (by decide +kernel) ⟨rfl, rfl, rfl, rfl, rfl, by decide +kernel⟩ ?hw ?hc
  case hw => w_witness2
  case hc =>
    refine K53.walk_ofG (l := PySem.Challenge.rw_outsoonest_k53_whole_journals_cut_anywhe) (n := 63) (k := 20) (x := "_law_script") (CX := L2.CX0) rfl (by decide) (by kernel_rfl) ⟨rfl, by decide, by decide⟩ ?F (fun _ _ _ _ z => z)
    intro w mg fa h Y G hmg0
    obtain ⟨K, KX, c⟩ := Y
    have hmg : mg ("law" : PySem.Str) = some (.ref fa) := by
      have e : (HandSHeadRun.topDef (OpenLaw.row PySem.Challenge.rw_outsoonest_k53_whole_journals_cut_anywhe).prog 60).name = ("law" : PySem.Str) := by kernel_rfl
      rw [← e]
      exact hmg0
    obtain ⟨fd, hb, hF⟩ := K53.facts (w := w) KX G hmg c
    exact ⟨K, fd, K53.spLawF K, KX, hb, fun H a ns hl _ _ hS => ⟨a, ns, rfl, hS, hl, fun _ => rfl⟩, hF⟩
#print axioms PySem.Challenge.cw_outsoonest_k53_whole_journals_cut_anywhe_holds


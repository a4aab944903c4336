import PyProof.Rows.All
import Wide.All
import OpenK.AllK
import Wide.FinOn
import Lean
import PyProof.EqAt
import PyProof.EqKinds
import PyProof.TupleCall
import Open.SpecLaws
import KE.OsGo
import KE.HD4
import HandS.ForSpec
import HandS.Comp
import HandS.Dict
import HandS.Iter
import HandS.Text
import HandS.Wide
import HandS.FStr
import HandS.IsInst
import HandS.Deep
import HandS.CallLocal
import HandS.Flow
import HandS.Conv
import HandS.NoneIn
import HandS.HeadHook2
import HandS.Evl
import PySem.Challenge.RW_chainbook_s01_answers
import KE.OsRun
import LsText
import LsChain
import ChainSpec
import KE.KDictDisplayH
import HandS.Walk
import PyProof.AutoSeq1
import PyProof.Rows.ReprOcc
import HandS.ExcSuper
import PyWrmpch
section
set_option Elab.async false
set_option linter.all false
set_option maxRecDepth 100000
set_option maxHeartbeats 4000000
namespace CB
open PySem PySem.Spec PyProof.Rows L2
/-! ### the text by places -/
def top (i : Nat) : Stmt := PySem.Challenge.pw_chainbook_s01_answers.main.body.getD i (.Pass ⟨0, 0, 0, 0⟩)
abbrev s_Known___init__ : Stmt := inClass (top 4) 0
abbrev N_Known___init__ : List Str := ["self", "name", "x", "y"]
theorem sc_Known___init__ : FnScope N_Known___init__ ["self", "name", "x", "y"] (defScope s_Known___init__) := ⟨rfl, rfl, rfl, by decide +kernel, rfl, by decide +kernel, by decide +kernel⟩
abbrev s_Entry___init__ : Stmt := inClass (top 5) 0
abbrev N_Entry___init__ : List Str := ["self", "chainage", "kind", "name", "number", "beside"]
theorem sc_Entry___init__ : FnScope N_Entry___init__ ["self", "chainage", "kind", "name", "number", "beside"] (defScope s_Entry___init__) := ⟨rfl, rfl, rfl, by decide +kernel, rfl, by decide +kernel, by decide +kernel⟩
abbrev s_Line___init__ : Stmt := inClass (top 6) 0
abbrev N_Line___init__ : List Str := ["self", "first", "second", "measure", "entries"]
theorem sc_Line___init__ : FnScope N_Line___init__ ["self", "first", "second", "measure", "entries"] (defScope s_Line___init__) := ⟨rfl, rfl, rfl, by decide +kernel, rfl, by decide +kernel, by decide +kernel⟩
abbrev s_Book___init__ : Stmt := inClass (top 7) 0
abbrev N_Book___init__ : List Str := ["self", "metres", "links", "sentences"]
theorem sc_Book___init__ : FnScope N_Book___init__ ["self", "metres", "links", "sentences"] (defScope s_Book___init__) := ⟨rfl, rfl, rfl, by decide +kernel, rfl, by decide +kernel, by decide +kernel⟩
abbrev s_empty_book : Stmt := top 8
abbrev N_empty_book : List Str := []
theorem sc_empty_book : FnScope N_empty_book [] (defScope s_empty_book) := ⟨rfl, rfl, rfl, by decide +kernel, rfl, by decide +kernel, by decide +kernel⟩
abbrev s_has_unit : Stmt := top 9
abbrev N_has_unit : List Str := ["book"]
theorem sc_has_unit : FnScope N_has_unit ["book"] (defScope s_has_unit) := ⟨rfl, rfl, rfl, by decide +kernel, rfl, by decide +kernel, by decide +kernel⟩
abbrev s_is_nothing_told : Stmt := top 10
abbrev N_is_nothing_told : List Str := ["book"]
theorem sc_is_nothing_told : FnScope N_is_nothing_told ["book"] (defScope s_is_nothing_told) := ⟨rfl, rfl, rfl, by decide +kernel, rfl, by decide +kernel, by decide +kernel⟩
abbrev s_knowns_of : Stmt := top 11
abbrev N_knowns_of : List Str := ["book", "sentence"]
theorem sc_knowns_of : FnScope N_knowns_of ["book"] (defScope s_knowns_of) := ⟨rfl, rfl, rfl, by decide +kernel, rfl, by decide +kernel, by decide +kernel⟩
abbrev s_lines_of : Stmt := top 12
abbrev N_lines_of : List Str := ["book", "sentence"]
theorem sc_lines_of : FnScope N_lines_of ["book"] (defScope s_lines_of) := ⟨rfl, rfl, rfl, by decide +kernel, rfl, by decide +kernel, by decide +kernel⟩
abbrev s_entries_of : Stmt := top 13
abbrev N_entries_of : List Str := ["book", "found", "line", "entry"]
theorem sc_entries_of : FnScope N_entries_of ["book"] (defScope s_entries_of) := ⟨rfl, rfl, rfl, by decide +kernel, rfl, by decide +kernel, by decide +kernel⟩
abbrev s_met_of : Stmt := top 14
abbrev N_met_of : List Str := ["book", "kind", "line", "entry"]
theorem sc_met_of : FnScope N_met_of ["book", "kind"] (defScope s_met_of) := ⟨rfl, rfl, rfl, by decide +kernel, rfl, by decide +kernel, by decide +kernel⟩
abbrev s_names_set : Stmt := top 15
abbrev N_names_set : List Str := ["book", "names", "sentence", "entry"]
theorem sc_names_set : FnScope N_names_set ["book"] (defScope s_names_set) := ⟨rfl, rfl, rfl, by decide +kernel, rfl, by decide +kernel, by decide +kernel⟩
abbrev s_names_told : Stmt := top 16
abbrev N_names_told : List Str := ["book", "told", "sentence", "entry"]
theorem sc_names_told : FnScope N_names_told ["book"] (defScope s_names_told) := ⟨rfl, rfl, rfl, by decide +kernel, rfl, by decide +kernel, by decide +kernel⟩
abbrev s_moved : Stmt := top 17
abbrev N_moved : List Str := ["book", "name", "x", "y", "sentences", "sentence"]
theorem sc_moved : FnScope N_moved ["book", "name", "x", "y"] (defScope s_moved) := ⟨rfl, rfl, rfl, by decide +kernel, rfl, by decide +kernel, by decide +kernel⟩
abbrev s_struck : Stmt := top 18
abbrev N_struck : List Str := ["book", "number", "sentences", "lines_passed", "sentence"]
theorem sc_struck : FnScope N_struck ["book", "number"] (defScope s_struck) := ⟨rfl, rfl, rfl, by decide +kernel, rfl, by decide +kernel, by decide +kernel⟩
abbrev s_is_coordinate : Stmt := top 30
abbrev N_is_coordinate : List Str := ["number"]
theorem sc_is_coordinate : FnScope N_is_coordinate ["number"] (defScope s_is_coordinate) := ⟨rfl, rfl, rfl, by decide +kernel, rfl, by decide +kernel, by decide +kernel⟩
abbrev s_is_feature_number : Stmt := top 31
abbrev N_is_feature_number : List Str := ["number"]
theorem sc_is_feature_number : FnScope N_is_feature_number ["number"] (defScope s_is_feature_number) := ⟨rfl, rfl, rfl, by decide +kernel, rfl, by decide +kernel, by decide +kernel⟩
abbrev s_common_divisor : Stmt := top 33
abbrev N_common_divisor : List Str := ["first", "second", "great", "small"]
theorem sc_common_divisor : FnScope N_common_divisor ["first", "second"] (defScope s_common_divisor) := ⟨rfl, rfl, rfl, by decide +kernel, rfl, by decide +kernel, by decide +kernel⟩
abbrev s_lowest : Stmt := top 34
abbrev N_lowest : List Str := ["above", "below", "divisor"]
theorem sc_lowest : FnScope N_lowest ["above", "below"] (defScope s_lowest) := ⟨rfl, rfl, rfl, by decide +kernel, rfl, by decide +kernel, by decide +kernel⟩
abbrev s_is_less : Stmt := top 35
abbrev N_is_less : List Str := ["one", "other"]
theorem sc_is_less : FnScope N_is_less ["one", "other"] (defScope s_is_less) := ⟨rfl, rfl, rfl, by decide +kernel, rfl, by decide +kernel, by decide +kernel⟩
abbrev s_turned_up : Stmt := top 36
abbrev N_turned_up : List Str := ["share", "above", "below"]
theorem sc_turned_up : FnScope N_turned_up ["share"] (defScope s_turned_up) := ⟨rfl, rfl, rfl, by decide +kernel, rfl, by decide +kernel, by decide +kernel⟩
abbrev s_nearest_whole : Stmt := top 37
abbrev N_nearest_whole : List Str := ["share", "above", "below"]
theorem sc_nearest_whole : FnScope N_nearest_whole ["share"] (defScope s_nearest_whole) := ⟨rfl, rfl, rfl, by decide +kernel, rfl, by decide +kernel, by decide +kernel⟩
abbrev s_lowest_place : Stmt := top 39
abbrev N_lowest_place : List Str := ["east", "north", "below", "divisor"]
theorem sc_lowest_place : FnScope N_lowest_place ["east", "north", "below"] (defScope s_lowest_place) := ⟨rfl, rfl, rfl, by decide +kernel, rfl, by decide +kernel, by decide +kernel⟩
abbrev s_shares_of : Stmt := top 40
abbrev N_shares_of : List Str := ["place", "east", "north", "below"]
theorem sc_shares_of : FnScope N_shares_of ["place"] (defScope s_shares_of) := ⟨rfl, rfl, rfl, by decide +kernel, rfl, by decide +kernel, by decide +kernel⟩
abbrev s_way : Stmt := top 41
abbrev N_way : List Str := ["first", "second", "east", "north", "below", "other_east", "other_north", "other_below"]
theorem sc_way : FnScope N_way ["first", "second"] (defScope s_way) := ⟨rfl, rfl, rfl, by decide +kernel, rfl, by decide +kernel, by decide +kernel⟩
abbrev s_place_on : Stmt := top 42
abbrev N_place_on : List Str := ["first", "second", "measure", "chainage", "beside", "dx", "dy", "east", "north", "below", "other_below", "whole", "met_east", "met_north"]
theorem sc_place_on : FnScope N_place_on ["first", "second", "measure", "chainage", "beside"] (defScope s_place_on) := ⟨rfl, rfl, rfl, by decide +kernel, rfl, by decide +kernel, by decide +kernel⟩
abbrev s_stands : Stmt := top 43
abbrev N_stands : List Str := ["places", "line"]
theorem sc_stands : FnScope N_stands ["places", "line"] (defScope s_stands) := ⟨rfl, rfl, rfl, by decide +kernel, rfl, by decide +kernel, by decide +kernel⟩
abbrev s_met_place : Stmt := top 44
abbrev N_met_place : List Str := ["places", "line", "entry", "first", "second"]
theorem sc_met_place : FnScope N_met_place ["places", "line", "entry"] (defScope s_met_place) := ⟨rfl, rfl, rfl, by decide +kernel, rfl, by decide +kernel, by decide +kernel⟩
abbrev s_places_of : Stmt := top 45
abbrev N_places_of : List Str := ["book", "places", "known", "hung", "turn", "line", "entry"]
theorem sc_places_of : FnScope N_places_of ["book"] (defScope s_places_of) := ⟨rfl, rfl, rfl, by decide +kernel, rfl, by decide +kernel, by decide +kernel⟩
abbrev s_lines_by_station : Stmt := top 46
abbrev N_lines_by_station : List Str := ["book", "lines", "line", "entry"]
theorem sc_lines_by_station : FnScope N_lines_by_station ["book"] (defScope s_lines_by_station) := ⟨rfl, rfl, rfl, by decide +kernel, rfl, by decide +kernel, by decide +kernel⟩
abbrev s_grounds : Stmt := top 47
abbrev N_grounds : List Str := ["lines", "name", "found", "waiting", "one", "end"]
theorem sc_grounds : FnScope N_grounds ["lines", "name"] (defScope s_grounds) := ⟨rfl, rfl, rfl, by decide +kernel, rfl, by decide +kernel, by decide +kernel⟩
abbrev s_can_be_told : Stmt := top 49
abbrev N_can_be_told : List Str := ["places", "line", "entry"]
theorem sc_can_be_told : FnScope N_can_be_told ["places", "line", "entry"] (defScope s_can_be_told) := ⟨rfl, rfl, rfl, by decide +kernel, rfl, by decide +kernel, by decide +kernel⟩
abbrev s_miss_of : Stmt := top 50
abbrev N_miss_of : List Str := ["places", "line", "entry", "passed", "station", "east", "north", "below"]
theorem sc_miss_of : FnScope N_miss_of ["places", "line", "entry"] (defScope s_miss_of) := ⟨rfl, rfl, rfl, by decide +kernel, rfl, by decide +kernel, by decide +kernel⟩
abbrev s_worst_tie : Stmt := top 51
abbrev N_worst_tie : List Str := ["places", "ties", "worst", "most", "number", "line", "entry", "square"]
theorem sc_worst_tie : FnScope N_worst_tie ["places", "ties"] (defScope s_worst_tie) := ⟨rfl, rfl, rfl, by decide +kernel, rfl, by decide +kernel, by decide +kernel⟩
abbrev s_stretch_of : Stmt := top 52
abbrev N_stretch_of : List Str := ["book", "places", "line", "metres", "links", "first", "second", "dx", "dy", "whole"]
theorem sc_stretch_of : FnScope N_stretch_of ["book", "places", "line"] (defScope s_stretch_of) := ⟨rfl, rfl, rfl, by decide +kernel, rfl, by decide +kernel, by decide +kernel⟩
abbrev s_is_farther_off : Stmt := top 53
abbrev N_is_farther_off : List Str := ["one", "other"]
theorem sc_is_farther_off : FnScope N_is_farther_off ["one", "other"] (defScope s_is_farther_off) := ⟨rfl, rfl, rfl, by decide +kernel, rfl, by decide +kernel, by decide +kernel⟩
abbrev s_worst_line : Stmt := top 54
abbrev N_worst_line : List Str := ["book", "places", "lines", "worst", "most", "number", "line", "stretch"]
theorem sc_worst_line : FnScope N_worst_line ["book", "places", "lines"] (defScope s_worst_line) := ⟨rfl, rfl, rfl, by decide +kernel, rfl, by decide +kernel, by decide +kernel⟩
abbrev s_Token___init__ : Stmt := inClass (top 75) 0
abbrev N_Token___init__ : List Str := ["self", "kind", "row", "at", "behind"]
theorem sc_Token___init__ : FnScope N_Token___init__ ["self", "kind", "row", "at", "behind"] (defScope s_Token___init__) := ⟨rfl, rfl, rfl, by decide +kernel, rfl, by decide +kernel, by decide +kernel⟩
abbrev s_bytes_of : Stmt := top 76
abbrev N_bytes_of : List Str := ["words", "sign"]
theorem sc_bytes_of : FnScope N_bytes_of ["words"] (defScope s_bytes_of) := ⟨rfl, rfl, rfl, by decide +kernel, rfl, by decide +kernel, by decide +kernel⟩
abbrev s_is_letter : Stmt := top 77
abbrev N_is_letter : List Str := ["byte"]
theorem sc_is_letter : FnScope N_is_letter ["byte"] (defScope s_is_letter) := ⟨rfl, rfl, rfl, by decide +kernel, rfl, by decide +kernel, by decide +kernel⟩
abbrev s_is_digit : Stmt := top 78
abbrev N_is_digit : List Str := ["byte"]
theorem sc_is_digit : FnScope N_is_digit ["byte"] (defScope s_is_digit) := ⟨rfl, rfl, rfl, by decide +kernel, rfl, by decide +kernel, by decide +kernel⟩
abbrev s_is_word_byte : Stmt := top 79
abbrev N_is_word_byte : List Str := ["byte"]
theorem sc_is_word_byte : FnScope N_is_word_byte ["byte"] (defScope s_is_word_byte) := ⟨rfl, rfl, rfl, by decide +kernel, rfl, by decide +kernel, by decide +kernel⟩
abbrev s_is_quoted_byte : Stmt := top 80
abbrev N_is_quoted_byte : List Str := ["byte"]
theorem sc_is_quoted_byte : FnScope N_is_quoted_byte ["byte"] (defScope s_is_quoted_byte) := ⟨rfl, rfl, rfl, by decide +kernel, rfl, by decide +kernel, by decide +kernel⟩
abbrev s_number_of : Stmt := top 81
abbrev N_number_of : List Str := ["digits", "number", "digit"]
theorem sc_number_of : FnScope N_number_of ["digits"] (defScope s_number_of) := ⟨rfl, rfl, rfl, by decide +kernel, rfl, by decide +kernel, by decide +kernel⟩
abbrev s_line_end : Stmt := top 82
abbrev N_line_end : List Str := ["text", "start", "at"]
theorem sc_line_end : FnScope N_line_end ["text", "start"] (defScope s_line_end) := ⟨rfl, rfl, rfl, by decide +kernel, rfl, by decide +kernel, by decide +kernel⟩
abbrev s_word_end : Stmt := top 83
abbrev N_word_end : List Str := ["text", "start", "at"]
theorem sc_word_end : FnScope N_word_end ["text", "start"] (defScope s_word_end) := ⟨rfl, rfl, rfl, by decide +kernel, rfl, by decide +kernel, by decide +kernel⟩
abbrev s_digits_end : Stmt := top 84
abbrev N_digits_end : List Str := ["text", "start", "at"]
theorem sc_digits_end : FnScope N_digits_end ["text", "start"] (defScope s_digits_end) := ⟨rfl, rfl, rfl, by decide +kernel, rfl, by decide +kernel, by decide +kernel⟩
abbrev s_quoted_end : Stmt := top 85
abbrev N_quoted_end : List Str := ["text", "start", "at"]
theorem sc_quoted_end : FnScope N_quoted_end ["text", "start"] (defScope s_quoted_end) := ⟨rfl, rfl, rfl, by decide +kernel, rfl, by decide +kernel, by decide +kernel⟩
abbrev s_blanks_end : Stmt := top 86
abbrev N_blanks_end : List Str := ["text", "start", "at"]
theorem sc_blanks_end : FnScope N_blanks_end ["text", "start"] (defScope s_blanks_end) := ⟨rfl, rfl, rfl, by decide +kernel, rfl, by decide +kernel, by decide +kernel⟩
abbrev s_no_token : Stmt := top 87
abbrev N_no_token : List Str := ["at"]
theorem sc_no_token : FnScope N_no_token ["at"] (defScope s_no_token) := ⟨rfl, rfl, rfl, by decide +kernel, rfl, by decide +kernel, by decide +kernel⟩
abbrev s_word_at : Stmt := top 88
abbrev N_word_at : List Str := ["text", "at", "behind"]
theorem sc_word_at : FnScope N_word_at ["text", "at"] (defScope s_word_at) := ⟨rfl, rfl, rfl, by decide +kernel, rfl, by decide +kernel, by decide +kernel⟩
abbrev s_number_at : Stmt := top 89
abbrev N_number_at : List Str := ["text", "at", "behind"]
theorem sc_number_at : FnScope N_number_at ["text", "at"] (defScope s_number_at) := ⟨rfl, rfl, rfl, by decide +kernel, rfl, by decide +kernel, by decide +kernel⟩
abbrev s_text_at : Stmt := top 90
abbrev N_text_at : List Str := ["text", "at", "close"]
theorem sc_text_at : FnScope N_text_at ["text", "at"] (defScope s_text_at) := ⟨rfl, rfl, rfl, by decide +kernel, rfl, by decide +kernel, by decide +kernel⟩
abbrev s_token_from : Stmt := top 91
abbrev N_token_from : List Str := ["text", "start", "at", "first"]
theorem sc_token_from : FnScope N_token_from ["text", "start"] (defScope s_token_from) := ⟨rfl, rfl, rfl, by decide +kernel, rfl, by decide +kernel, by decide +kernel⟩
abbrev s_joined : Stmt := top 93
abbrev N_joined : List Str := ["rows", "between", "whole", "at"]
theorem sc_joined : FnScope N_joined ["rows", "between"] (defScope s_joined) := ⟨rfl, rfl, rfl, by decide +kernel, rfl, by decide +kernel, by decide +kernel⟩
abbrev s_names_bytes : Stmt := top 94
abbrev N_names_bytes : List Str := ["names"]
theorem sc_names_bytes : FnScope N_names_bytes ["names"] (defScope s_names_bytes) := ⟨rfl, rfl, rfl, by decide +kernel, rfl, by decide +kernel, by decide +kernel⟩
abbrev s_sentence_line : Stmt := top 95
abbrev N_sentence_line : List Str := ["parts"]
theorem sc_sentence_line : FnScope N_sentence_line ["parts"] (defScope s_sentence_line) := ⟨rfl, rfl, rfl, by decide +kernel, rfl, by decide +kernel, by decide +kernel⟩
abbrev s_beside_bytes : Stmt := top 96
abbrev N_beside_bytes : List Str := ["beside"]
theorem sc_beside_bytes : FnScope N_beside_bytes ["beside"] (defScope s_beside_bytes) := ⟨rfl, rfl, rfl, by decide +kernel, rfl, by decide +kernel, by decide +kernel⟩
abbrev s_entry_bytes : Stmt := top 97
abbrev N_entry_bytes : List Str := ["entry"]
theorem sc_entry_bytes : FnScope N_entry_bytes ["entry"] (defScope s_entry_bytes) := ⟨rfl, rfl, rfl, by decide +kernel, rfl, by decide +kernel, by decide +kernel⟩
abbrev s_known_line : Stmt := top 98
abbrev N_known_line : List Str := ["known"]
theorem sc_known_line : FnScope N_known_line ["known"] (defScope s_known_line) := ⟨rfl, rfl, rfl, by decide +kernel, rfl, by decide +kernel, by decide +kernel⟩
abbrev s_line_line : Stmt := top 99
abbrev N_line_line : List Str := ["line", "measure", "parts", "entry"]
theorem sc_line_line : FnScope N_line_line ["line"] (defScope s_line_line) := ⟨rfl, rfl, rfl, by decide +kernel, rfl, by decide +kernel, by decide +kernel⟩
abbrev s_book_bytes : Stmt := top 100
abbrev N_book_bytes : List Str := ["book", "whole", "sentence"]
theorem sc_book_bytes : FnScope N_book_bytes ["book"] (defScope s_book_bytes) := ⟨rfl, rfl, rfl, by decide +kernel, rfl, by decide +kernel, by decide +kernel⟩
abbrev s_Fault___init__ : Stmt := inClass (top 110) 0
abbrev N_Fault___init__ : List Str := ["self", "kind", "at"]
theorem sc_Fault___init__ : FnScope N_Fault___init__ ["self", "kind", "at"] (defScope s_Fault___init__) := ⟨rfl, rfl, rfl, by decide +kernel, rfl, by decide +kernel, by decide +kernel⟩
abbrev s_Tally___init__ : Stmt := inClass (top 111) 0
abbrev N_Tally___init__ : List Str := ["self", "book"]
theorem sc_Tally___init__ : FnScope N_Tally___init__ ["self", "book"] (defScope s_Tally___init__) := ⟨rfl, rfl, rfl, by decide +kernel, rfl, by decide +kernel, by decide +kernel⟩
abbrev s_Tally_add_station : Stmt := inClass (top 111) 1
abbrev N_Tally_add_station : List Str := ["self", "name"]
theorem sc_Tally_add_station : FnScope N_Tally_add_station ["self", "name"] (defScope s_Tally_add_station) := ⟨rfl, rfl, rfl, by decide +kernel, rfl, by decide +kernel, by decide +kernel⟩
abbrev s_Tally_add_line : Stmt := inClass (top 111) 2
abbrev N_Tally_add_line : List Str := ["self"]
theorem sc_Tally_add_line : FnScope N_Tally_add_line ["self"] (defScope s_Tally_add_line) := ⟨rfl, rfl, rfl, by decide +kernel, rfl, by decide +kernel, by decide +kernel⟩
abbrev s_Tally_add_entry : Stmt := inClass (top 111) 3
abbrev N_Tally_add_entry : List Str := ["self"]
theorem sc_Tally_add_entry : FnScope N_Tally_add_entry ["self"] (defScope s_Tally_add_entry) := ⟨rfl, rfl, rfl, by decide +kernel, rfl, by decide +kernel, by decide +kernel⟩
abbrev s_Reader___init__ : Stmt := inClass (top 112) 0
abbrev N_Reader___init__ : List Str := ["self", "text"]
theorem sc_Reader___init__ : FnScope N_Reader___init__ ["self", "text"] (defScope s_Reader___init__) := ⟨rfl, rfl, rfl, by decide +kernel, rfl, by decide +kernel, by decide +kernel⟩
abbrev s_Reader_look : Stmt := inClass (top 112) 1
abbrev N_Reader_look : List Str := ["self"]
theorem sc_Reader_look : FnScope N_Reader_look ["self"] (defScope s_Reader_look) := ⟨rfl, rfl, rfl, by decide +kernel, rfl, by decide +kernel, by decide +kernel⟩
abbrev s_Reader_place : Stmt := inClass (top 112) 2
abbrev N_Reader_place : List Str := ["self"]
theorem sc_Reader_place : FnScope N_Reader_place ["self"] (defScope s_Reader_place) := ⟨rfl, rfl, rfl, by decide +kernel, rfl, by decide +kernel, by decide +kernel⟩
abbrev s_Reader_sees : Stmt := inClass (top 112) 3
abbrev N_Reader_sees : List Str := ["self", "kind"]
theorem sc_Reader_sees : FnScope N_Reader_sees ["self", "kind"] (defScope s_Reader_sees) := ⟨rfl, rfl, rfl, by decide +kernel, rfl, by decide +kernel, by decide +kernel⟩
abbrev s_Reader_sees_word : Stmt := inClass (top 112) 4
abbrev N_Reader_sees_word : List Str := ["self", "word"]
theorem sc_Reader_sees_word : FnScope N_Reader_sees_word ["self", "word"] (defScope s_Reader_sees_word) := ⟨rfl, rfl, rfl, by decide +kernel, rfl, by decide +kernel, by decide +kernel⟩
abbrev s_Reader_sees_sign : Stmt := inClass (top 112) 5
abbrev N_Reader_sees_sign : List Str := ["self", "sign"]
theorem sc_Reader_sees_sign : FnScope N_Reader_sees_sign ["self", "sign"] (defScope s_Reader_sees_sign) := ⟨rfl, rfl, rfl, by decide +kernel, rfl, by decide +kernel, by decide +kernel⟩
abbrev s_Reader_sees_name : Stmt := inClass (top 112) 6
abbrev N_Reader_sees_name : List Str := ["self", "word"]
theorem sc_Reader_sees_name : FnScope N_Reader_sees_name ["self"] (defScope s_Reader_sees_name) := ⟨rfl, rfl, rfl, by decide +kernel, rfl, by decide +kernel, by decide +kernel⟩
abbrev s_Reader_take : Stmt := inClass (top 112) 7
abbrev N_Reader_take : List Str := ["self", "token"]
theorem sc_Reader_take : FnScope N_Reader_take ["self"] (defScope s_Reader_take) := ⟨rfl, rfl, rfl, by decide +kernel, rfl, by decide +kernel, by decide +kernel⟩
abbrev s_Reader_take_word : Stmt := inClass (top 112) 8
abbrev N_Reader_take_word : List Str := ["self", "word"]
theorem sc_Reader_take_word : FnScope N_Reader_take_word ["self", "word"] (defScope s_Reader_take_word) := ⟨rfl, rfl, rfl, by decide +kernel, rfl, by decide +kernel, by decide +kernel⟩
abbrev s_Reader_take_sign : Stmt := inClass (top 112) 9
abbrev N_Reader_take_sign : List Str := ["self", "sign"]
theorem sc_Reader_take_sign : FnScope N_Reader_take_sign ["self", "sign"] (defScope s_Reader_take_sign) := ⟨rfl, rfl, rfl, by decide +kernel, rfl, by decide +kernel, by decide +kernel⟩
abbrev s_Reader_take_name : Stmt := inClass (top 112) 10
abbrev N_Reader_take_name : List Str := ["self"]
theorem sc_Reader_take_name : FnScope N_Reader_take_name ["self"] (defScope s_Reader_take_name) := ⟨rfl, rfl, rfl, by decide +kernel, rfl, by decide +kernel, by decide +kernel⟩
abbrev s_Reader_take_number : Stmt := inClass (top 112) 11
abbrev N_Reader_take_number : List Str := ["self", "least", "top", "number"]
theorem sc_Reader_take_number : FnScope N_Reader_take_number ["self", "least", "top"] (defScope s_Reader_take_number) := ⟨rfl, rfl, rfl, by decide +kernel, rfl, by decide +kernel, by decide +kernel⟩
abbrev s_read_behind : Stmt := top 113
abbrev N_read_behind : List Str := ["ground", "text", "reader", "tally", "metres", "links", "sentences"]
theorem sc_read_behind : FnScope N_read_behind ["ground", "text"] (defScope s_read_behind) := ⟨rfl, rfl, rfl, by decide +kernel, rfl, by decide +kernel, by decide +kernel⟩
abbrev s_read_unit : Stmt := top 114
abbrev N_read_unit : List Str := ["reader", "metres", "links"]
theorem sc_read_unit : FnScope N_read_unit ["reader"] (defScope s_read_unit) := ⟨rfl, rfl, rfl, by decide +kernel, rfl, by decide +kernel, by decide +kernel⟩
abbrev s_read_new_station : Stmt := top 115
abbrev N_read_new_station : List Str := ["reader", "tally", "begin", "name"]
theorem sc_read_new_station : FnScope N_read_new_station ["reader", "tally"] (defScope s_read_new_station) := ⟨rfl, rfl, rfl, by decide +kernel, rfl, by decide +kernel, by decide +kernel⟩
abbrev s_read_known : Stmt := top 116
abbrev N_read_known : List Str := ["reader", "tally", "name", "x", "y"]
theorem sc_read_known : FnScope N_read_known ["reader", "tally"] (defScope s_read_known) := ⟨rfl, rfl, rfl, by decide +kernel, rfl, by decide +kernel, by decide +kernel⟩
abbrev s_read_line : Stmt := top 117
abbrev N_read_line : List Str := ["reader", "tally", "first", "begin", "second", "measure", "entries"]
theorem sc_read_line : FnScope N_read_line ["reader", "tally"] (defScope s_read_line) := ⟨rfl, rfl, rfl, by decide +kernel, rfl, by decide +kernel, by decide +kernel⟩
abbrev s_read_entries : Stmt := top 118
abbrev N_read_entries : List Str := ["reader", "tally", "measure", "entries"]
theorem sc_read_entries : FnScope N_read_entries ["reader", "tally", "measure"] (defScope s_read_entries) := ⟨rfl, rfl, rfl, by decide +kernel, rfl, by decide +kernel, by decide +kernel⟩
abbrev s_read_entry : Stmt := top 119
abbrev N_read_entry : List Str := ["reader", "tally", "least", "measure", "chainage", "name", "number"]
theorem sc_read_entry : FnScope N_read_entry ["reader", "tally", "least", "measure"] (defScope s_read_entry) := ⟨rfl, rfl, rfl, by decide +kernel, rfl, by decide +kernel, by decide +kernel⟩
abbrev s_read_chainage : Stmt := top 120
abbrev N_read_chainage : List Str := ["reader", "tally", "least", "measure", "begin", "chainage"]
theorem sc_read_chainage : FnScope N_read_chainage ["reader", "tally", "least", "measure"] (defScope s_read_chainage) := ⟨rfl, rfl, rfl, by decide +kernel, rfl, by decide +kernel, by decide +kernel⟩
abbrev s_read_beside : Stmt := top 121
abbrev N_read_beside : List Str := ["reader"]
theorem sc_read_beside : FnScope N_read_beside ["reader"] (defScope s_read_beside) := ⟨rfl, rfl, rfl, by decide +kernel, rfl, by decide +kernel, by decide +kernel⟩
abbrev s_names_answer : Stmt := top 129
abbrev N_names_answer : List Str := ["names"]
theorem sc_names_answer : FnScope N_names_answer ["names"] (defScope s_names_answer) := ⟨rfl, rfl, rfl, by decide +kernel, rfl, by decide +kernel, by decide +kernel⟩
abbrev s_read_into : Stmt := top 130
abbrev N_read_into : List Str := ["land", "ground", "text", "told", "fault"]
theorem sc_read_into : FnScope N_read_into ["land", "ground", "text"] (defScope s_read_into) := ⟨rfl, rfl, rfl, by decide +kernel, rfl, by decide +kernel, by decide +kernel⟩
abbrev s_do_book : Stmt := top 131
abbrev N_do_book : List Str := ["land", "numbers", "rows"]
theorem sc_do_book : FnScope N_do_book ["land", "numbers", "rows"] (defScope s_do_book) := ⟨rfl, rfl, rfl, by decide +kernel, rfl, by decide +kernel, by decide +kernel⟩
abbrev s_do_more : Stmt := top 132
abbrev N_do_more : List Str := ["land", "numbers", "rows"]
theorem sc_do_more : FnScope N_do_more ["land", "numbers", "rows"] (defScope s_do_more) := ⟨rfl, rfl, rfl, by decide +kernel, rfl, by decide +kernel, by decide +kernel⟩
abbrev s_do_print : Stmt := top 133
abbrev N_do_print : List Str := ["land", "numbers", "rows", "text"]
theorem sc_do_print : FnScope N_do_print ["land", "numbers", "rows"] (defScope s_do_print) := ⟨rfl, rfl, rfl, by decide +kernel, rfl, by decide +kernel, by decide +kernel⟩
abbrev s_do_count : Stmt := top 134
abbrev N_do_count : List Str := ["land", "numbers", "rows", "book", "stations"]
theorem sc_do_count : FnScope N_do_count ["land", "numbers", "rows"] (defScope s_do_count) := ⟨rfl, rfl, rfl, by decide +kernel, rfl, by decide +kernel, by decide +kernel⟩
abbrev s_do_where : Stmt := top 135
abbrev N_do_where : List Str := ["land", "numbers", "rows", "name"]
theorem sc_do_where : FnScope N_do_where ["land", "numbers", "rows"] (defScope s_do_where) := ⟨rfl, rfl, rfl, by decide +kernel, rfl, by decide +kernel, by decide +kernel⟩
abbrev s_do_ground : Stmt := top 136
abbrev N_do_ground : List Str := ["land", "numbers", "rows", "name", "found", "known"]
theorem sc_do_ground : FnScope N_do_ground ["land", "numbers", "rows"] (defScope s_do_ground) := ⟨rfl, rfl, rfl, by decide +kernel, rfl, by decide +kernel, by decide +kernel⟩
abbrev s_do_hangs : Stmt := top 137
abbrev N_do_hangs : List Str := ["land", "numbers", "rows", "name", "lines", "others", "other"]
theorem sc_do_hangs : FnScope N_do_hangs ["land", "numbers", "rows"] (defScope s_do_hangs) := ⟨rfl, rfl, rfl, by decide +kernel, rfl, by decide +kernel, by decide +kernel⟩
abbrev s_do_lacking : Stmt := top 138
abbrev N_do_lacking : List Str := ["land", "numbers", "rows", "name"]
theorem sc_do_lacking : FnScope N_do_lacking ["land", "numbers", "rows"] (defScope s_do_lacking) := ⟨rfl, rfl, rfl, by decide +kernel, rfl, by decide +kernel, by decide +kernel⟩
abbrev s_feature_refusal : Stmt := top 139
abbrev N_feature_refusal : List Str := ["land", "number", "line", "lines", "entry"]
theorem sc_feature_refusal : FnScope N_feature_refusal ["land", "number"] (defScope s_feature_refusal) := ⟨rfl, rfl, rfl, by decide +kernel, rfl, by decide +kernel, by decide +kernel⟩
abbrev s_feature_places : Stmt := top 140
abbrev N_feature_places : List Str := ["land", "number", "places", "line", "entry"]
theorem sc_feature_places : FnScope N_feature_places ["land", "number"] (defScope s_feature_places) := ⟨rfl, rfl, rfl, by decide +kernel, rfl, by decide +kernel, by decide +kernel⟩
abbrev s_do_feature : Stmt := top 141
abbrev N_do_feature : List Str := ["land", "numbers", "rows", "refusal", "places", "answer", "place"]
theorem sc_do_feature : FnScope N_do_feature ["land", "numbers", "rows"] (defScope s_do_feature) := ⟨rfl, rfl, rfl, by decide +kernel, rfl, by decide +kernel, by decide +kernel⟩
abbrev s_do_rounded : Stmt := top 142
abbrev N_do_rounded : List Str := ["land", "numbers", "rows", "refusal", "places", "answer", "east", "north", "below", "x", "y"]
theorem sc_do_rounded : FnScope N_do_rounded ["land", "numbers", "rows"] (defScope s_do_rounded) := ⟨rfl, rfl, rfl, by decide +kernel, rfl, by decide +kernel, by decide +kernel⟩
abbrev s_do_tie : Stmt := top 143
abbrev N_do_tie : List Str := ["land", "numbers", "rows", "ties", "line", "entry", "answer", "share"]
theorem sc_do_tie : FnScope N_do_tie ["land", "numbers", "rows"] (defScope s_do_tie) := ⟨rfl, rfl, rfl, by decide +kernel, rfl, by decide +kernel, by decide +kernel⟩
abbrev s_do_worst_tie : Stmt := top 144
abbrev N_do_worst_tie : List Str := ["land", "numbers", "rows", "worst", "most"]
theorem sc_do_worst_tie : FnScope N_do_worst_tie ["land", "numbers", "rows"] (defScope s_do_worst_tie) := ⟨rfl, rfl, rfl, by decide +kernel, rfl, by decide +kernel, by decide +kernel⟩
abbrev s_do_stretch : Stmt := top 145
abbrev N_do_stretch : List Str := ["land", "numbers", "rows", "lines", "line"]
theorem sc_do_stretch : FnScope N_do_stretch ["land", "numbers", "rows"] (defScope s_do_stretch) := ⟨rfl, rfl, rfl, by decide +kernel, rfl, by decide +kernel, by decide +kernel⟩
abbrev s_do_worst_line : Stmt := top 146
abbrev N_do_worst_line : List Str := ["land", "numbers", "rows", "worst", "most"]
theorem sc_do_worst_line : FnScope N_do_worst_line ["land", "numbers", "rows"] (defScope s_do_worst_line) := ⟨rfl, rfl, rfl, by decide +kernel, rfl, by decide +kernel, by decide +kernel⟩
abbrev s_do_move : Stmt := top 147
abbrev N_do_move : List Str := ["land", "numbers", "rows", "x", "y", "name", "known"]
theorem sc_do_move : FnScope N_do_move ["land", "numbers", "rows"] (defScope s_do_move) := ⟨rfl, rfl, rfl, by decide +kernel, rfl, by decide +kernel, by decide +kernel⟩
abbrev s_do_strike : Stmt := top 148
abbrev N_do_strike : List Str := ["land", "numbers", "rows"]
theorem sc_do_strike : FnScope N_do_strike ["land", "numbers", "rows"] (defScope s_do_strike) := ⟨rfl, rfl, rfl, by decide +kernel, rfl, by decide +kernel, by decide +kernel⟩
abbrev s_Land___init__ : Stmt := inClass (top 150) 0
abbrev N_Land___init__ : List Str := ["self"]
theorem sc_Land___init__ : FnScope N_Land___init__ ["self"] (defScope s_Land___init__) := ⟨rfl, rfl, rfl, by decide +kernel, rfl, by decide +kernel, by decide +kernel⟩
abbrev s_Land_hold : Stmt := inClass (top 150) 1
abbrev N_Land_hold : List Str := ["self", "book"]
theorem sc_Land_hold : FnScope N_Land_hold ["self", "book"] (defScope s_Land_hold) := ⟨rfl, rfl, rfl, by decide +kernel, rfl, by decide +kernel, by decide +kernel⟩
abbrev s_call_from : Stmt := top 154
abbrev N_call_from : List Str := ["calls", "at", "many_numbers", "many_rows", "behind", "numbers", "rows", "turn", "begin"]
theorem sc_call_from : FnScope N_call_from ["calls", "at"] (defScope s_call_from) := ⟨rfl, rfl, rfl, by decide +kernel, rfl, by decide +kernel, by decide +kernel⟩
abbrev s_answers : Stmt := top 155
abbrev N_answers : List Str := ["calls", "land", "told", "at", "numbers", "rows", "behind", "deed", "answer"]
theorem sc_answers : FnScope N_answers ["calls"] (defScope s_answers) := ⟨rfl, rfl, rfl, by decide +kernel, rfl, by decide +kernel, by decide +kernel⟩
/-! ### the facts of the head -/
def fa0 : List He.Fa := [.int "STATION" (0), .int "TIE" (1), .int "FEATURE" (2), .int "MOST_TEXT" (16384), .int "MOST_NAME" (31), .int "MOST_STATIONS" (64), .int "MOST_LINES" (64), .int "MOST_ENTRIES" (512), .int "TOP_COORDINATE" (999999), .int "TOP_UNIT" (1000000), .int "TOP_LINKS" (100000), .int "TOP_FEATURE" (9999), .int "TOP_BESIDE" (10000), .int "NO_TOKEN" (0), .int "END" (1), .int "WORD" (2), .int "NUMBER" (3), .int "TEXT" (4), .int "SIGN" (5), .int "LINE_FEED" (10)]
def fa1 : List He.Fa := [.int "QUOTE" (34), .int "BACKSLASH" (92), .int "PERCENT" (37), .int "UNDERSCORE" (95), .int "COMMA" (44), .int "SLASH" (47), .int "COLON" (58), .int "SEMICOLON" (59), .int "MOST_DIGITS" (9), .int "MOST_QUOTED" (40), .int "NO_SUCH_TOKEN" (1), .int "CANNOT_STAND" (2), .int "NOT_IN_BOUNDS" (3), .int "SET_ALREADY" (4), .int "WRONG_CHAINAGE" (5), .int "TOO_MANY" (6), .int "SAME_STATION" (7), .int "TOO_LONG" (-2), .int "OUT_OF_BOUNDS" (-1), .int "NOTHING_YET" (-3)]
def fa2 : List He.Fa := [.int "NO_SUCH" (-4), .int "NOT_NOW" (-5), .int "FAULTY" (-6), .glo "BLANKS", .glo "SIGNS", .glo "KEPT", .glo "Known", .glo "Entry", .glo "Line", .glo "Book", .glo "Token", .glo "Fault", .glo "Tally", .glo "Reader", .glo "Land", .glo "FORMS", .glo "DEEDS", .glo "empty_book", .glo "has_unit", .glo "is_nothing_told"]
def fa3 : List He.Fa := [.glo "knowns_of", .glo "lines_of", .glo "entries_of", .glo "met_of", .glo "names_set", .glo "names_told", .glo "moved", .glo "struck", .glo "is_coordinate", .glo "is_feature_number", .glo "common_divisor", .glo "lowest", .glo "is_less", .glo "turned_up", .glo "nearest_whole", .glo "lowest_place", .glo "shares_of", .glo "way", .glo "place_on", .glo "stands"]
def fa4 : List He.Fa := [.glo "met_place", .glo "places_of", .glo "lines_by_station", .glo "grounds", .glo "can_be_told", .glo "miss_of", .glo "worst_tie", .glo "stretch_of", .glo "is_farther_off", .glo "worst_line", .glo "bytes_of", .glo "is_letter", .glo "is_digit", .glo "is_word_byte", .glo "is_quoted_byte", .glo "number_of", .glo "line_end", .glo "word_end", .glo "digits_end", .glo "quoted_end"]
def fa5 : List He.Fa := [.glo "blanks_end", .glo "no_token", .glo "word_at", .glo "number_at", .glo "text_at", .glo "token_from", .glo "joined", .glo "names_bytes", .glo "sentence_line", .glo "beside_bytes", .glo "entry_bytes", .glo "known_line", .glo "line_line", .glo "book_bytes", .glo "read_behind", .glo "read_unit", .glo "read_new_station", .glo "read_known", .glo "read_line", .glo "read_entries"]
def fa6 : List He.Fa := [.glo "read_entry", .glo "read_chainage", .glo "read_beside", .glo "names_answer", .glo "read_into", .glo "do_book", .glo "do_more", .glo "do_print", .glo "do_count", .glo "do_where", .glo "do_ground", .glo "do_hangs", .glo "do_lacking", .glo "feature_refusal", .glo "feature_places", .glo "do_feature", .glo "do_rounded", .glo "do_tie", .glo "do_worst_tie", .glo "do_stretch"]
def fa7 : List He.Fa := [.glo "do_worst_line", .glo "do_move", .glo "do_strike", .glo "call_from", .glo "answers", .free "abs", .free "len", .free "ord", .free "isinstance", .free "max", .free "min", .free "list", .free "tuple", .free "range", .free "enumerate", .cls "Known", .mkr "Known", .noat "Known" "name", .noat "Known" "x", .noat "Known" "y"]
def fa8 : List He.Fa := [.cls "Entry", .mkr "Entry", .noat "Entry" "chainage", .noat "Entry" "kind", .noat "Entry" "name", .noat "Entry" "number", .noat "Entry" "beside", .cls "Line", .mkr "Line", .noat "Line" "first", .noat "Line" "second", .noat "Line" "measure", .noat "Line" "entries", .cls "Book", .mkr "Book", .noat "Book" "metres", .noat "Book" "links", .noat "Book" "sentences", .cls "Token", .mkr "Token"]
def fa9 : List He.Fa := [.noat "Token" "kind", .noat "Token" "row", .noat "Token" "at", .noat "Token" "behind", .meth "Fault" "__init__", .noat "Fault" "kind", .noat "Fault" "at", .cls "Tally", .mkr "Tally", .noat "Tally" "stations", .noat "Tally" "many_lines", .noat "Tally" "many_entries", .cls "Reader", .mkr "Reader", .noat "Reader" "text", .noat "Reader" "token", .cls "Land", .mkr "Land", .noat "Land" "book", .noat "Land" "places"]
def fa10 : List He.Fa := [.meth "Tally" "add_station", .meth "Tally" "add_line", .meth "Tally" "add_entry", .meth "Reader" "look", .meth "Reader" "place", .meth "Reader" "sees", .meth "Reader" "sees_word", .meth "Reader" "sees_sign", .meth "Reader" "sees_name", .meth "Reader" "take", .meth "Reader" "take_word", .meth "Reader" "take_sign", .meth "Reader" "take_name", .meth "Reader" "take_number", .meth "Land" "hold"]
def fa : List He.Fa := fa0 ++ (fa1 ++ (fa2 ++ (fa3 ++ (fa4 ++ (fa5 ++ (fa6 ++ (fa7 ++ (fa8 ++ (fa9 ++ (fa10))))))))))
def fn0 : List He.DefD := [⟨("Known", some "__init__"), "__init__", "Known.__init__", defArgs s_Known___init__, defBody s_Known___init__, defScope s_Known___init__, [], []⟩, ⟨("Entry", some "__init__"), "__init__", "Entry.__init__", defArgs s_Entry___init__, defBody s_Entry___init__, defScope s_Entry___init__, [], []⟩, ⟨("Line", some "__init__"), "__init__", "Line.__init__", defArgs s_Line___init__, defBody s_Line___init__, defScope s_Line___init__, [], []⟩, ⟨("Book", some "__init__"), "__init__", "Book.__init__", defArgs s_Book___init__, defBody s_Book___init__, defScope s_Book___init__, [], []⟩, ⟨("empty_book", none), "empty_book", "empty_book", defArgs s_empty_book, defBody s_empty_book, defScope s_empty_book, [], []⟩, ⟨("has_unit", none), "has_unit", "has_unit", defArgs s_has_unit, defBody s_has_unit, defScope s_has_unit, [], []⟩, ⟨("is_nothing_told", none), "is_nothing_told", "is_nothing_told", defArgs s_is_nothing_told, defBody s_is_nothing_told, defScope s_is_nothing_told, [], []⟩, ⟨("knowns_of", none), "knowns_of", "knowns_of", defArgs s_knowns_of, defBody s_knowns_of, defScope s_knowns_of, [], []⟩, ⟨("lines_of", none), "lines_of", "lines_of", defArgs s_lines_of, defBody s_lines_of, defScope s_lines_of, [], []⟩, ⟨("entries_of", none), "entries_of", "entries_of", defArgs s_entries_of, defBody s_entries_of, defScope s_entries_of, [], []⟩, ⟨("met_of", none), "met_of", "met_of", defArgs s_met_of, defBody s_met_of, defScope s_met_of, [], []⟩, ⟨("names_set", none), "names_set", "names_set", defArgs s_names_set, defBody s_names_set, defScope s_names_set, [], []⟩, ⟨("names_told", none), "names_told", "names_told", defArgs s_names_told, defBody s_names_told, defScope s_names_told, [], []⟩, ⟨("moved", none), "moved", "moved", defArgs s_moved, defBody s_moved, defScope s_moved, [], []⟩, ⟨("struck", none), "struck", "struck", defArgs s_struck, defBody s_struck, defScope s_struck, [], []⟩, ⟨("is_coordinate", none), "is_coordinate", "is_coordinate", defArgs s_is_coordinate, defBody s_is_coordinate, defScope s_is_coordinate, [], []⟩, ⟨("is_feature_number", none), "is_feature_number", "is_feature_number", defArgs s_is_feature_number, defBody s_is_feature_number, defScope s_is_feature_number, [], []⟩, ⟨("common_divisor", none), "common_divisor", "common_divisor", defArgs s_common_divisor, defBody s_common_divisor, defScope s_common_divisor, [], []⟩, ⟨("lowest", none), "lowest", "lowest", defArgs s_lowest, defBody s_lowest, defScope s_lowest, [], []⟩, ⟨("is_less", none), "is_less", "is_less", defArgs s_is_less, defBody s_is_less, defScope s_is_less, [], []⟩]
def fn1 : List He.DefD := [⟨("turned_up", none), "turned_up", "turned_up", defArgs s_turned_up, defBody s_turned_up, defScope s_turned_up, [], []⟩, ⟨("nearest_whole", none), "nearest_whole", "nearest_whole", defArgs s_nearest_whole, defBody s_nearest_whole, defScope s_nearest_whole, [], []⟩, ⟨("lowest_place", none), "lowest_place", "lowest_place", defArgs s_lowest_place, defBody s_lowest_place, defScope s_lowest_place, [], []⟩, ⟨("shares_of", none), "shares_of", "shares_of", defArgs s_shares_of, defBody s_shares_of, defScope s_shares_of, [], []⟩, ⟨("way", none), "way", "way", defArgs s_way, defBody s_way, defScope s_way, [], []⟩, ⟨("place_on", none), "place_on", "place_on", defArgs s_place_on, defBody s_place_on, defScope s_place_on, [], []⟩, ⟨("stands", none), "stands", "stands", defArgs s_stands, defBody s_stands, defScope s_stands, [], []⟩, ⟨("met_place", none), "met_place", "met_place", defArgs s_met_place, defBody s_met_place, defScope s_met_place, [], []⟩, ⟨("places_of", none), "places_of", "places_of", defArgs s_places_of, defBody s_places_of, defScope s_places_of, [], []⟩, ⟨("lines_by_station", none), "lines_by_station", "lines_by_station", defArgs s_lines_by_station, defBody s_lines_by_station, defScope s_lines_by_station, [], []⟩, ⟨("grounds", none), "grounds", "grounds", defArgs s_grounds, defBody s_grounds, defScope s_grounds, [], []⟩, ⟨("can_be_told", none), "can_be_told", "can_be_told", defArgs s_can_be_told, defBody s_can_be_told, defScope s_can_be_told, [], []⟩, ⟨("miss_of", none), "miss_of", "miss_of", defArgs s_miss_of, defBody s_miss_of, defScope s_miss_of, [], []⟩, ⟨("worst_tie", none), "worst_tie", "worst_tie", defArgs s_worst_tie, defBody s_worst_tie, defScope s_worst_tie, [], []⟩, ⟨("stretch_of", none), "stretch_of", "stretch_of", defArgs s_stretch_of, defBody s_stretch_of, defScope s_stretch_of, [], []⟩, ⟨("is_farther_off", none), "is_farther_off", "is_farther_off", defArgs s_is_farther_off, defBody s_is_farther_off, defScope s_is_farther_off, [], []⟩, ⟨("worst_line", none), "worst_line", "worst_line", defArgs s_worst_line, defBody s_worst_line, defScope s_worst_line, [], []⟩, ⟨("Token", some "__init__"), "__init__", "Token.__init__", defArgs s_Token___init__, defBody s_Token___init__, defScope s_Token___init__, [], []⟩, ⟨("bytes_of", none), "bytes_of", "bytes_of", defArgs s_bytes_of, defBody s_bytes_of, defScope s_bytes_of, [], []⟩, ⟨("is_letter", none), "is_letter", "is_letter", defArgs s_is_letter, defBody s_is_letter, defScope s_is_letter, [], []⟩]
def fn2 : List He.DefD := [⟨("is_digit", none), "is_digit", "is_digit", defArgs s_is_digit, defBody s_is_digit, defScope s_is_digit, [], []⟩, ⟨("is_word_byte", none), "is_word_byte", "is_word_byte", defArgs s_is_word_byte, defBody s_is_word_byte, defScope s_is_word_byte, [], []⟩, ⟨("is_quoted_byte", none), "is_quoted_byte", "is_quoted_byte", defArgs s_is_quoted_byte, defBody s_is_quoted_byte, defScope s_is_quoted_byte, [], []⟩, ⟨("number_of", none), "number_of", "number_of", defArgs s_number_of, defBody s_number_of, defScope s_number_of, [], []⟩, ⟨("line_end", none), "line_end", "line_end", defArgs s_line_end, defBody s_line_end, defScope s_line_end, [], []⟩, ⟨("word_end", none), "word_end", "word_end", defArgs s_word_end, defBody s_word_end, defScope s_word_end, [], []⟩, ⟨("digits_end", none), "digits_end", "digits_end", defArgs s_digits_end, defBody s_digits_end, defScope s_digits_end, [], []⟩, ⟨("quoted_end", none), "quoted_end", "quoted_end", defArgs s_quoted_end, defBody s_quoted_end, defScope s_quoted_end, [], []⟩, ⟨("blanks_end", none), "blanks_end", "blanks_end", defArgs s_blanks_end, defBody s_blanks_end, defScope s_blanks_end, [], []⟩, ⟨("no_token", none), "no_token", "no_token", defArgs s_no_token, defBody s_no_token, defScope s_no_token, [], []⟩, ⟨("word_at", none), "word_at", "word_at", defArgs s_word_at, defBody s_word_at, defScope s_word_at, [], []⟩, ⟨("number_at", none), "number_at", "number_at", defArgs s_number_at, defBody s_number_at, defScope s_number_at, [], []⟩, ⟨("text_at", none), "text_at", "text_at", defArgs s_text_at, defBody s_text_at, defScope s_text_at, [], []⟩, ⟨("token_from", none), "token_from", "token_from", defArgs s_token_from, defBody s_token_from, defScope s_token_from, [], []⟩, ⟨("joined", none), "joined", "joined", defArgs s_joined, defBody s_joined, defScope s_joined, [], []⟩, ⟨("names_bytes", none), "names_bytes", "names_bytes", defArgs s_names_bytes, defBody s_names_bytes, defScope s_names_bytes, [], []⟩, ⟨("sentence_line", none), "sentence_line", "sentence_line", defArgs s_sentence_line, defBody s_sentence_line, defScope s_sentence_line, [], []⟩, ⟨("beside_bytes", none), "beside_bytes", "beside_bytes", defArgs s_beside_bytes, defBody s_beside_bytes, defScope s_beside_bytes, [], []⟩, ⟨("entry_bytes", none), "entry_bytes", "entry_bytes", defArgs s_entry_bytes, defBody s_entry_bytes, defScope s_entry_bytes, [], []⟩, ⟨("known_line", none), "known_line", "known_line", defArgs s_known_line, defBody s_known_line, defScope s_known_line, [], []⟩]
def fn3 : List He.DefD := [⟨("line_line", none), "line_line", "line_line", defArgs s_line_line, defBody s_line_line, defScope s_line_line, [], []⟩, ⟨("book_bytes", none), "book_bytes", "book_bytes", defArgs s_book_bytes, defBody s_book_bytes, defScope s_book_bytes, [], []⟩, ⟨("Fault", some "__init__"), "__init__", "Fault.__init__", defArgs s_Fault___init__, defBody s_Fault___init__, defScope s_Fault___init__, [], []⟩, ⟨("Tally", some "__init__"), "__init__", "Tally.__init__", defArgs s_Tally___init__, defBody s_Tally___init__, defScope s_Tally___init__, [], []⟩, ⟨("Tally", some "add_station"), "add_station", "Tally.add_station", defArgs s_Tally_add_station, defBody s_Tally_add_station, defScope s_Tally_add_station, [], []⟩, ⟨("Tally", some "add_line"), "add_line", "Tally.add_line", defArgs s_Tally_add_line, defBody s_Tally_add_line, defScope s_Tally_add_line, [], []⟩, ⟨("Tally", some "add_entry"), "add_entry", "Tally.add_entry", defArgs s_Tally_add_entry, defBody s_Tally_add_entry, defScope s_Tally_add_entry, [], []⟩, ⟨("Reader", some "__init__"), "__init__", "Reader.__init__", defArgs s_Reader___init__, defBody s_Reader___init__, defScope s_Reader___init__, [], []⟩, ⟨("Reader", some "look"), "look", "Reader.look", defArgs s_Reader_look, defBody s_Reader_look, defScope s_Reader_look, [], []⟩, ⟨("Reader", some "place"), "place", "Reader.place", defArgs s_Reader_place, defBody s_Reader_place, defScope s_Reader_place, [], []⟩, ⟨("Reader", some "sees"), "sees", "Reader.sees", defArgs s_Reader_sees, defBody s_Reader_sees, defScope s_Reader_sees, [], []⟩, ⟨("Reader", some "sees_word"), "sees_word", "Reader.sees_word", defArgs s_Reader_sees_word, defBody s_Reader_sees_word, defScope s_Reader_sees_word, [], []⟩, ⟨("Reader", some "sees_sign"), "sees_sign", "Reader.sees_sign", defArgs s_Reader_sees_sign, defBody s_Reader_sees_sign, defScope s_Reader_sees_sign, [], []⟩, ⟨("Reader", some "sees_name"), "sees_name", "Reader.sees_name", defArgs s_Reader_sees_name, defBody s_Reader_sees_name, defScope s_Reader_sees_name, [], []⟩, ⟨("Reader", some "take"), "take", "Reader.take", defArgs s_Reader_take, defBody s_Reader_take, defScope s_Reader_take, [], []⟩, ⟨("Reader", some "take_word"), "take_word", "Reader.take_word", defArgs s_Reader_take_word, defBody s_Reader_take_word, defScope s_Reader_take_word, [], []⟩, ⟨("Reader", some "take_sign"), "take_sign", "Reader.take_sign", defArgs s_Reader_take_sign, defBody s_Reader_take_sign, defScope s_Reader_take_sign, [], []⟩, ⟨("Reader", some "take_name"), "take_name", "Reader.take_name", defArgs s_Reader_take_name, defBody s_Reader_take_name, defScope s_Reader_take_name, [], []⟩, ⟨("Reader", some "take_number"), "take_number", "Reader.take_number", defArgs s_Reader_take_number, defBody s_Reader_take_number, defScope s_Reader_take_number, [], []⟩, ⟨("read_behind", none), "read_behind", "read_behind", defArgs s_read_behind, defBody s_read_behind, defScope s_read_behind, [], []⟩]
def fn4 : List He.DefD := [⟨("read_unit", none), "read_unit", "read_unit", defArgs s_read_unit, defBody s_read_unit, defScope s_read_unit, [], []⟩, ⟨("read_new_station", none), "read_new_station", "read_new_station", defArgs s_read_new_station, defBody s_read_new_station, defScope s_read_new_station, [], []⟩, ⟨("read_known", none), "read_known", "read_known", defArgs s_read_known, defBody s_read_known, defScope s_read_known, [], []⟩, ⟨("read_line", none), "read_line", "read_line", defArgs s_read_line, defBody s_read_line, defScope s_read_line, [], []⟩, ⟨("read_entries", none), "read_entries", "read_entries", defArgs s_read_entries, defBody s_read_entries, defScope s_read_entries, [], []⟩, ⟨("read_entry", none), "read_entry", "read_entry", defArgs s_read_entry, defBody s_read_entry, defScope s_read_entry, [], []⟩, ⟨("read_chainage", none), "read_chainage", "read_chainage", defArgs s_read_chainage, defBody s_read_chainage, defScope s_read_chainage, [], []⟩, ⟨("read_beside", none), "read_beside", "read_beside", defArgs s_read_beside, defBody s_read_beside, defScope s_read_beside, [], []⟩, ⟨("names_answer", none), "names_answer", "names_answer", defArgs s_names_answer, defBody s_names_answer, defScope s_names_answer, [], []⟩, ⟨("read_into", none), "read_into", "read_into", defArgs s_read_into, defBody s_read_into, defScope s_read_into, [], []⟩, ⟨("do_book", none), "do_book", "do_book", defArgs s_do_book, defBody s_do_book, defScope s_do_book, [], []⟩, ⟨("do_more", none), "do_more", "do_more", defArgs s_do_more, defBody s_do_more, defScope s_do_more, [], []⟩, ⟨("do_print", none), "do_print", "do_print", defArgs s_do_print, defBody s_do_print, defScope s_do_print, [], []⟩, ⟨("do_count", none), "do_count", "do_count", defArgs s_do_count, defBody s_do_count, defScope s_do_count, [], []⟩, ⟨("do_where", none), "do_where", "do_where", defArgs s_do_where, defBody s_do_where, defScope s_do_where, [], []⟩, ⟨("do_ground", none), "do_ground", "do_ground", defArgs s_do_ground, defBody s_do_ground, defScope s_do_ground, [], []⟩, ⟨("do_hangs", none), "do_hangs", "do_hangs", defArgs s_do_hangs, defBody s_do_hangs, defScope s_do_hangs, [], []⟩, ⟨("do_lacking", none), "do_lacking", "do_lacking", defArgs s_do_lacking, defBody s_do_lacking, defScope s_do_lacking, [], []⟩, ⟨("feature_refusal", none), "feature_refusal", "feature_refusal", defArgs s_feature_refusal, defBody s_feature_refusal, defScope s_feature_refusal, [], []⟩, ⟨("feature_places", none), "feature_places", "feature_places", defArgs s_feature_places, defBody s_feature_places, defScope s_feature_places, [], []⟩]
def fn5 : List He.DefD := [⟨("do_feature", none), "do_feature", "do_feature", defArgs s_do_feature, defBody s_do_feature, defScope s_do_feature, [], []⟩, ⟨("do_rounded", none), "do_rounded", "do_rounded", defArgs s_do_rounded, defBody s_do_rounded, defScope s_do_rounded, [], []⟩, ⟨("do_tie", none), "do_tie", "do_tie", defArgs s_do_tie, defBody s_do_tie, defScope s_do_tie, [], []⟩, ⟨("do_worst_tie", none), "do_worst_tie", "do_worst_tie", defArgs s_do_worst_tie, defBody s_do_worst_tie, defScope s_do_worst_tie, [], []⟩, ⟨("do_stretch", none), "do_stretch", "do_stretch", defArgs s_do_stretch, defBody s_do_stretch, defScope s_do_stretch, [], []⟩, ⟨("do_worst_line", none), "do_worst_line", "do_worst_line", defArgs s_do_worst_line, defBody s_do_worst_line, defScope s_do_worst_line, [], []⟩, ⟨("do_move", none), "do_move", "do_move", defArgs s_do_move, defBody s_do_move, defScope s_do_move, [], []⟩, ⟨("do_strike", none), "do_strike", "do_strike", defArgs s_do_strike, defBody s_do_strike, defScope s_do_strike, [], []⟩, ⟨("Land", some "__init__"), "__init__", "Land.__init__", defArgs s_Land___init__, defBody s_Land___init__, defScope s_Land___init__, [], []⟩, ⟨("Land", some "hold"), "hold", "Land.hold", defArgs s_Land_hold, defBody s_Land_hold, defScope s_Land_hold, [], []⟩, ⟨("call_from", none), "call_from", "call_from", defArgs s_call_from, defBody s_call_from, defScope s_call_from, [], []⟩, ⟨("answers", none), "answers", "answers", defArgs s_answers, defBody s_answers, defScope s_answers, [], []⟩]
def fn : List He.DefD := fn0 ++ (fn1 ++ (fn2 ++ (fn3 ++ (fn4 ++ (fn5)))))
/-- the tables of the top -/
def xBlanks : List He.Dv := [.int 32, .int 9, .int 10, .int 13]
def xSigns : List He.Dv := [.int 40, .int 41, .int 43, .int 44, .int 45, .int 47, .int 58, .int 59, .int 61]
def xKept : List He.Dv := [.str "unit", .str "known", .str "at", .str "line", .str "to", .str "measures", .str "station", .str "tie", .str "feature", .str "left", .str "right"]
/-- isinstance of an instance of x, of the class y: the answer b -/
def xIsi (K : PySem.W.Frag) (x y : Str) (b : Bool) : Bool := He.eqO (PySem.W.findIn K (.ref (He.ga K x)) "__class__") (some (some (.builtin "object.__class__"))) && (He.eqO (PySem.W.specialIn K (.builtin "object.__class__") "__get__") (some (some (.builtin "getset_descriptor.__get__"))) &&
  (decide (PySem.W.takesIn K (.builtin "object.__class__") = some true) && (decide (PySem.W.mroIn K (He.ga K x) (.type "object") = some true) && decide (PySem.W.kitOne K (.ref (He.ga K x)) (.ref (He.ga K y)) = some b))))
def xIsis (K : PySem.W.Frag) : Bool := xIsi K "Known" "Known" true && (xIsi K "Known" "Line" false && (xIsi K "Line" "Known" false && xIsi K "Line" "Line" true))
/-- an own class over Exception -/
def xExc (K : PySem.W.Frag) (C : Addr) : Bool := match K.lookup C with
  | some ⟨.type t, _, .cls cd, sl⟩ => decide (t = "type") && (decide (cd.mro = [.ref C, .type "Exception", .type "BaseException", .type "object"]) && (!cd.hasDel && (cd.hasDict && (match sl.toList with
    | [_, _, _, _, some (.builtin n), _] => decide (n = "Exception.__new__")
    | _ => false))))
  | _ => false
def xFault (K : PySem.W.Frag) (C : Addr) : Bool := xExc K C && (He.eqO (PySem.W.findIn K (.ref C) "__setattr__") (some (some (.builtin "object.__setattr__"))) && (He.eqO (PySem.W.findIn K (.ref C) "__getattribute__") (some (some (.builtin "BaseException.__getattribute__"))) &&
  (He.eqO (PySem.W.findIn K (.ref C) "__getattr__") (some none) && (PySem.W.keepIn K (.ref C) && (decide (PySem.W.subIn K (.ref C) (.type "BaseException") = some true) && (decide (PySem.W.typeIn K (.ref C) = some (.type "type")) && (PySem.W.hasDictIn K C && decide (PySem.W.exmOne K (.ref C) (.ref C) = some true))))))))
/-- a dict of the top with whole numbers as keys -/
def intKey (e : DictEntry) : Bool := match e.key with
  | .int i _ => decide (e.hash = hashInt i)
  | _ => false
def xIdic (K : PySem.W.Frag) (a : Addr) (f : Array DictEntry → Bool) : Bool := match K.lookup a with
  | some ⟨.type t, none, .dict es _, sl⟩ => decide (t = "dict") && (decide (sl.toList.length = 0) && (decide (a ≠ sysModules) && (es.toList.all intKey && f es)))
  | _ => false
def xTup (K : PySem.W.Frag) (p : Addr) (vs : List V) : Bool := match K.lookup p with
  | some ⟨.type c, _, .seq its _, _⟩ => decide (c = "tuple") && (decide (its.size ≤ sizeLine) && He.relAll vs its.toList)
  | _ => false
def formsL : List (Int × Int × Int) := [(1, 0, 1), (2, 0, 1), (3, 0, 0), (4, 0, 0), (5, 0, 1), (6, 0, 1), (7, 0, 1), (8, 0, 0), (9, 1, 0), (10, 1, 0), (11, 1, 0), (12, 0, 0), (13, 1, 0), (14, 0, 0), (15, 2, 1), (16, 1, 0)]
def deedsL : List (Int × Str) := [(1, "do_book"), (2, "do_more"), (3, "do_print"), (4, "do_count"), (5, "do_where"), (6, "do_ground"), (7, "do_hangs"), (8, "do_lacking"), (9, "do_feature"), (10, "do_rounded"), (11, "do_tie"), (12, "do_worst_tie"), (13, "do_stretch"), (14, "do_worst_line"), (15, "do_move"), (16, "do_strike")]
def xForms (K : PySem.W.Frag) (es : Array DictEntry) : Bool := formsL.all fun x => match findBy Value.isInt es x.1 with
  | some (.ref p) => xTup K p [.int x.2.1, .int x.2.2]
  | _ => false
def xDeeds (K : PySem.W.Frag) (es : Array DictEntry) : Bool := deedsL.all fun x => decide (findBy Value.isInt es x.1 = some (.ref (He.fAd K (x.2, none))))
def xDist (K : PySem.W.Frag) : Bool := decide ((deedsL.map fun x => He.fAd K (x.2, none)).Nodup)
def ytra (K : PySem.W.Frag) : Bool := xFault K (He.ga K "Fault") && (xIdic K (He.ga K "FORMS") (xForms K) && (xIdic K (He.ga K "DEEDS") (xDeeds K) && xDist K))
def xtra (K : PySem.W.Frag) : Bool := He.tupB K "BLANKS" xBlanks && (He.tupB K "SIGNS" xSigns && (He.tupB K "KEPT" xKept && (xIsis K && ytra K)))
/-- what the top has written -/
structure Txt (K : PySem.W.Frag) (mg : Str → Option Value) : Prop where
  heap : ∃ h : Heap, K.In h ∧ h.Ns mainGlobals mg
  c : He.SaysD fa fn K
  x : xtra K = true
section
variable {K : PySem.W.Frag} {mg : Str → Option Value}
theorem Txt.m_STATION (T : Txt K mg) : ∃ t, mg "STATION" = some (.int (0) t) := by
  obtain ⟨h, X, G⟩ := T.heap
  exact He.int_ok X G (T.c.fact 0 rfl)
theorem Txt.m_TIE (T : Txt K mg) : ∃ t, mg "TIE" = some (.int (1) t) := by
  obtain ⟨h, X, G⟩ := T.heap
  exact He.int_ok X G (T.c.fact 1 rfl)
theorem Txt.m_FEATURE (T : Txt K mg) : ∃ t, mg "FEATURE" = some (.int (2) t) := by
  obtain ⟨h, X, G⟩ := T.heap
  exact He.int_ok X G (T.c.fact 2 rfl)
theorem Txt.m_MOST_TEXT (T : Txt K mg) : ∃ t, mg "MOST_TEXT" = some (.int (16384) t) := by
  obtain ⟨h, X, G⟩ := T.heap
  exact He.int_ok X G (T.c.fact 3 rfl)
theorem Txt.m_MOST_NAME (T : Txt K mg) : ∃ t, mg "MOST_NAME" = some (.int (31) t) := by
  obtain ⟨h, X, G⟩ := T.heap
  exact He.int_ok X G (T.c.fact 4 rfl)
theorem Txt.m_MOST_STATIONS (T : Txt K mg) : ∃ t, mg "MOST_STATIONS" = some (.int (64) t) := by
  obtain ⟨h, X, G⟩ := T.heap
  exact He.int_ok X G (T.c.fact 5 rfl)
theorem Txt.m_MOST_LINES (T : Txt K mg) : ∃ t, mg "MOST_LINES" = some (.int (64) t) := by
  obtain ⟨h, X, G⟩ := T.heap
  exact He.int_ok X G (T.c.fact 6 rfl)
theorem Txt.m_MOST_ENTRIES (T : Txt K mg) : ∃ t, mg "MOST_ENTRIES" = some (.int (512) t) := by
  obtain ⟨h, X, G⟩ := T.heap
  exact He.int_ok X G (T.c.fact 7 rfl)
theorem Txt.m_TOP_COORDINATE (T : Txt K mg) : ∃ t, mg "TOP_COORDINATE" = some (.int (999999) t) := by
  obtain ⟨h, X, G⟩ := T.heap
  exact He.int_ok X G (T.c.fact 8 rfl)
theorem Txt.m_TOP_UNIT (T : Txt K mg) : ∃ t, mg "TOP_UNIT" = some (.int (1000000) t) := by
  obtain ⟨h, X, G⟩ := T.heap
  exact He.int_ok X G (T.c.fact 9 rfl)
theorem Txt.m_TOP_LINKS (T : Txt K mg) : ∃ t, mg "TOP_LINKS" = some (.int (100000) t) := by
  obtain ⟨h, X, G⟩ := T.heap
  exact He.int_ok X G (T.c.fact 10 rfl)
theorem Txt.m_TOP_FEATURE (T : Txt K mg) : ∃ t, mg "TOP_FEATURE" = some (.int (9999) t) := by
  obtain ⟨h, X, G⟩ := T.heap
  exact He.int_ok X G (T.c.fact 11 rfl)
theorem Txt.m_TOP_BESIDE (T : Txt K mg) : ∃ t, mg "TOP_BESIDE" = some (.int (10000) t) := by
  obtain ⟨h, X, G⟩ := T.heap
  exact He.int_ok X G (T.c.fact 12 rfl)
theorem Txt.m_NO_TOKEN (T : Txt K mg) : ∃ t, mg "NO_TOKEN" = some (.int (0) t) := by
  obtain ⟨h, X, G⟩ := T.heap
  exact He.int_ok X G (T.c.fact 13 rfl)
theorem Txt.m_END (T : Txt K mg) : ∃ t, mg "END" = some (.int (1) t) := by
  obtain ⟨h, X, G⟩ := T.heap
  exact He.int_ok X G (T.c.fact 14 rfl)
theorem Txt.m_WORD (T : Txt K mg) : ∃ t, mg "WORD" = some (.int (2) t) := by
  obtain ⟨h, X, G⟩ := T.heap
  exact He.int_ok X G (T.c.fact 15 rfl)
theorem Txt.m_NUMBER (T : Txt K mg) : ∃ t, mg "NUMBER" = some (.int (3) t) := by
  obtain ⟨h, X, G⟩ := T.heap
  exact He.int_ok X G (T.c.fact 16 rfl)
theorem Txt.m_TEXT (T : Txt K mg) : ∃ t, mg "TEXT" = some (.int (4) t) := by
  obtain ⟨h, X, G⟩ := T.heap
  exact He.int_ok X G (T.c.fact 17 rfl)
theorem Txt.m_SIGN (T : Txt K mg) : ∃ t, mg "SIGN" = some (.int (5) t) := by
  obtain ⟨h, X, G⟩ := T.heap
  exact He.int_ok X G (T.c.fact 18 rfl)
theorem Txt.m_LINE_FEED (T : Txt K mg) : ∃ t, mg "LINE_FEED" = some (.int (10) t) := by
  obtain ⟨h, X, G⟩ := T.heap
  exact He.int_ok X G (T.c.fact 19 rfl)
theorem Txt.m_QUOTE (T : Txt K mg) : ∃ t, mg "QUOTE" = some (.int (34) t) := by
  obtain ⟨h, X, G⟩ := T.heap
  exact He.int_ok X G (T.c.fact 20 rfl)
theorem Txt.m_BACKSLASH (T : Txt K mg) : ∃ t, mg "BACKSLASH" = some (.int (92) t) := by
  obtain ⟨h, X, G⟩ := T.heap
  exact He.int_ok X G (T.c.fact 21 rfl)
theorem Txt.m_PERCENT (T : Txt K mg) : ∃ t, mg "PERCENT" = some (.int (37) t) := by
  obtain ⟨h, X, G⟩ := T.heap
  exact He.int_ok X G (T.c.fact 22 rfl)
theorem Txt.m_UNDERSCORE (T : Txt K mg) : ∃ t, mg "UNDERSCORE" = some (.int (95) t) := by
  obtain ⟨h, X, G⟩ := T.heap
  exact He.int_ok X G (T.c.fact 23 rfl)
theorem Txt.m_COMMA (T : Txt K mg) : ∃ t, mg "COMMA" = some (.int (44) t) := by
  obtain ⟨h, X, G⟩ := T.heap
  exact He.int_ok X G (T.c.fact 24 rfl)
theorem Txt.m_SLASH (T : Txt K mg) : ∃ t, mg "SLASH" = some (.int (47) t) := by
  obtain ⟨h, X, G⟩ := T.heap
  exact He.int_ok X G (T.c.fact 25 rfl)
theorem Txt.m_COLON (T : Txt K mg) : ∃ t, mg "COLON" = some (.int (58) t) := by
  obtain ⟨h, X, G⟩ := T.heap
  exact He.int_ok X G (T.c.fact 26 rfl)
theorem Txt.m_SEMICOLON (T : Txt K mg) : ∃ t, mg "SEMICOLON" = some (.int (59) t) := by
  obtain ⟨h, X, G⟩ := T.heap
  exact He.int_ok X G (T.c.fact 27 rfl)
theorem Txt.m_MOST_DIGITS (T : Txt K mg) : ∃ t, mg "MOST_DIGITS" = some (.int (9) t) := by
  obtain ⟨h, X, G⟩ := T.heap
  exact He.int_ok X G (T.c.fact 28 rfl)
theorem Txt.m_MOST_QUOTED (T : Txt K mg) : ∃ t, mg "MOST_QUOTED" = some (.int (40) t) := by
  obtain ⟨h, X, G⟩ := T.heap
  exact He.int_ok X G (T.c.fact 29 rfl)
theorem Txt.m_NO_SUCH_TOKEN (T : Txt K mg) : ∃ t, mg "NO_SUCH_TOKEN" = some (.int (1) t) := by
  obtain ⟨h, X, G⟩ := T.heap
  exact He.int_ok X G (T.c.fact 30 rfl)
theorem Txt.m_CANNOT_STAND (T : Txt K mg) : ∃ t, mg "CANNOT_STAND" = some (.int (2) t) := by
  obtain ⟨h, X, G⟩ := T.heap
  exact He.int_ok X G (T.c.fact 31 rfl)
theorem Txt.m_NOT_IN_BOUNDS (T : Txt K mg) : ∃ t, mg "NOT_IN_BOUNDS" = some (.int (3) t) := by
  obtain ⟨h, X, G⟩ := T.heap
  exact He.int_ok X G (T.c.fact 32 rfl)
theorem Txt.m_SET_ALREADY (T : Txt K mg) : ∃ t, mg "SET_ALREADY" = some (.int (4) t) := by
  obtain ⟨h, X, G⟩ := T.heap
  exact He.int_ok X G (T.c.fact 33 rfl)
theorem Txt.m_WRONG_CHAINAGE (T : Txt K mg) : ∃ t, mg "WRONG_CHAINAGE" = some (.int (5) t) := by
  obtain ⟨h, X, G⟩ := T.heap
  exact He.int_ok X G (T.c.fact 34 rfl)
theorem Txt.m_TOO_MANY (T : Txt K mg) : ∃ t, mg "TOO_MANY" = some (.int (6) t) := by
  obtain ⟨h, X, G⟩ := T.heap
  exact He.int_ok X G (T.c.fact 35 rfl)
theorem Txt.m_SAME_STATION (T : Txt K mg) : ∃ t, mg "SAME_STATION" = some (.int (7) t) := by
  obtain ⟨h, X, G⟩ := T.heap
  exact He.int_ok X G (T.c.fact 36 rfl)
theorem Txt.m_TOO_LONG (T : Txt K mg) : ∃ t, mg "TOO_LONG" = some (.int (-2) t) := by
  obtain ⟨h, X, G⟩ := T.heap
  exact He.int_ok X G (T.c.fact 37 rfl)
theorem Txt.m_OUT_OF_BOUNDS (T : Txt K mg) : ∃ t, mg "OUT_OF_BOUNDS" = some (.int (-1) t) := by
  obtain ⟨h, X, G⟩ := T.heap
  exact He.int_ok X G (T.c.fact 38 rfl)
theorem Txt.m_NOTHING_YET (T : Txt K mg) : ∃ t, mg "NOTHING_YET" = some (.int (-3) t) := by
  obtain ⟨h, X, G⟩ := T.heap
  exact He.int_ok X G (T.c.fact 39 rfl)
theorem Txt.m_NO_SUCH (T : Txt K mg) : ∃ t, mg "NO_SUCH" = some (.int (-4) t) := by
  obtain ⟨h, X, G⟩ := T.heap
  exact He.int_ok X G (T.c.fact 40 rfl)
theorem Txt.m_NOT_NOW (T : Txt K mg) : ∃ t, mg "NOT_NOW" = some (.int (-5) t) := by
  obtain ⟨h, X, G⟩ := T.heap
  exact He.int_ok X G (T.c.fact 41 rfl)
theorem Txt.m_FAULTY (T : Txt K mg) : ∃ t, mg "FAULTY" = some (.int (-6) t) := by
  obtain ⟨h, X, G⟩ := T.heap
  exact He.int_ok X G (T.c.fact 42 rfl)
theorem Txt.g_BLANKS (T : Txt K mg) : mg "BLANKS" = some (.ref (He.ga K "BLANKS")) := by
  obtain ⟨h, X, G⟩ := T.heap
  exact He.glo_ok X G (T.c.fact 43 rfl)
theorem Txt.g_SIGNS (T : Txt K mg) : mg "SIGNS" = some (.ref (He.ga K "SIGNS")) := by
  obtain ⟨h, X, G⟩ := T.heap
  exact He.glo_ok X G (T.c.fact 44 rfl)
theorem Txt.g_KEPT (T : Txt K mg) : mg "KEPT" = some (.ref (He.ga K "KEPT")) := by
  obtain ⟨h, X, G⟩ := T.heap
  exact He.glo_ok X G (T.c.fact 45 rfl)
theorem Txt.g_Known (T : Txt K mg) : mg "Known" = some (.ref (He.ga K "Known")) := by
  obtain ⟨h, X, G⟩ := T.heap
  exact He.glo_ok X G (T.c.fact 46 rfl)
theorem Txt.g_Entry (T : Txt K mg) : mg "Entry" = some (.ref (He.ga K "Entry")) := by
  obtain ⟨h, X, G⟩ := T.heap
  exact He.glo_ok X G (T.c.fact 47 rfl)
theorem Txt.g_Line (T : Txt K mg) : mg "Line" = some (.ref (He.ga K "Line")) := by
  obtain ⟨h, X, G⟩ := T.heap
  exact He.glo_ok X G (T.c.fact 48 rfl)
theorem Txt.g_Book (T : Txt K mg) : mg "Book" = some (.ref (He.ga K "Book")) := by
  obtain ⟨h, X, G⟩ := T.heap
  exact He.glo_ok X G (T.c.fact 49 rfl)
theorem Txt.g_Token (T : Txt K mg) : mg "Token" = some (.ref (He.ga K "Token")) := by
  obtain ⟨h, X, G⟩ := T.heap
  exact He.glo_ok X G (T.c.fact 50 rfl)
theorem Txt.g_Fault (T : Txt K mg) : mg "Fault" = some (.ref (He.ga K "Fault")) := by
  obtain ⟨h, X, G⟩ := T.heap
  exact He.glo_ok X G (T.c.fact 51 rfl)
theorem Txt.g_Tally (T : Txt K mg) : mg "Tally" = some (.ref (He.ga K "Tally")) := by
  obtain ⟨h, X, G⟩ := T.heap
  exact He.glo_ok X G (T.c.fact 52 rfl)
theorem Txt.g_Reader (T : Txt K mg) : mg "Reader" = some (.ref (He.ga K "Reader")) := by
  obtain ⟨h, X, G⟩ := T.heap
  exact He.glo_ok X G (T.c.fact 53 rfl)
theorem Txt.g_Land (T : Txt K mg) : mg "Land" = some (.ref (He.ga K "Land")) := by
  obtain ⟨h, X, G⟩ := T.heap
  exact He.glo_ok X G (T.c.fact 54 rfl)
theorem Txt.g_FORMS (T : Txt K mg) : mg "FORMS" = some (.ref (He.ga K "FORMS")) := by
  obtain ⟨h, X, G⟩ := T.heap
  exact He.glo_ok X G (T.c.fact 55 rfl)
theorem Txt.g_DEEDS (T : Txt K mg) : mg "DEEDS" = some (.ref (He.ga K "DEEDS")) := by
  obtain ⟨h, X, G⟩ := T.heap
  exact He.glo_ok X G (T.c.fact 56 rfl)
theorem Txt.g_empty_book (T : Txt K mg) : mg "empty_book" = some (.ref (He.ga K "empty_book")) := by
  obtain ⟨h, X, G⟩ := T.heap
  exact He.glo_ok X G (T.c.fact 57 rfl)
theorem Txt.g_has_unit (T : Txt K mg) : mg "has_unit" = some (.ref (He.ga K "has_unit")) := by
  obtain ⟨h, X, G⟩ := T.heap
  exact He.glo_ok X G (T.c.fact 58 rfl)
theorem Txt.g_is_nothing_told (T : Txt K mg) : mg "is_nothing_told" = some (.ref (He.ga K "is_nothing_told")) := by
  obtain ⟨h, X, G⟩ := T.heap
  exact He.glo_ok X G (T.c.fact 59 rfl)
theorem Txt.g_knowns_of (T : Txt K mg) : mg "knowns_of" = some (.ref (He.ga K "knowns_of")) := by
  obtain ⟨h, X, G⟩ := T.heap
  exact He.glo_ok X G (T.c.fact 60 rfl)
theorem Txt.g_lines_of (T : Txt K mg) : mg "lines_of" = some (.ref (He.ga K "lines_of")) := by
  obtain ⟨h, X, G⟩ := T.heap
  exact He.glo_ok X G (T.c.fact 61 rfl)
theorem Txt.g_entries_of (T : Txt K mg) : mg "entries_of" = some (.ref (He.ga K "entries_of")) := by
  obtain ⟨h, X, G⟩ := T.heap
  exact He.glo_ok X G (T.c.fact 62 rfl)
theorem Txt.g_met_of (T : Txt K mg) : mg "met_of" = some (.ref (He.ga K "met_of")) := by
  obtain ⟨h, X, G⟩ := T.heap
  exact He.glo_ok X G (T.c.fact 63 rfl)
theorem Txt.g_names_set (T : Txt K mg) : mg "names_set" = some (.ref (He.ga K "names_set")) := by
  obtain ⟨h, X, G⟩ := T.heap
  exact He.glo_ok X G (T.c.fact 64 rfl)
theorem Txt.g_names_told (T : Txt K mg) : mg "names_told" = some (.ref (He.ga K "names_told")) := by
  obtain ⟨h, X, G⟩ := T.heap
  exact He.glo_ok X G (T.c.fact 65 rfl)
theorem Txt.g_moved (T : Txt K mg) : mg "moved" = some (.ref (He.ga K "moved")) := by
  obtain ⟨h, X, G⟩ := T.heap
  exact He.glo_ok X G (T.c.fact 66 rfl)
theorem Txt.g_struck (T : Txt K mg) : mg "struck" = some (.ref (He.ga K "struck")) := by
  obtain ⟨h, X, G⟩ := T.heap
  exact He.glo_ok X G (T.c.fact 67 rfl)
theorem Txt.g_is_coordinate (T : Txt K mg) : mg "is_coordinate" = some (.ref (He.ga K "is_coordinate")) := by
  obtain ⟨h, X, G⟩ := T.heap
  exact He.glo_ok X G (T.c.fact 68 rfl)
theorem Txt.g_is_feature_number (T : Txt K mg) : mg "is_feature_number" = some (.ref (He.ga K "is_feature_number")) := by
  obtain ⟨h, X, G⟩ := T.heap
  exact He.glo_ok X G (T.c.fact 69 rfl)
theorem Txt.g_common_divisor (T : Txt K mg) : mg "common_divisor" = some (.ref (He.ga K "common_divisor")) := by
  obtain ⟨h, X, G⟩ := T.heap
  exact He.glo_ok X G (T.c.fact 70 rfl)
theorem Txt.g_lowest (T : Txt K mg) : mg "lowest" = some (.ref (He.ga K "lowest")) := by
  obtain ⟨h, X, G⟩ := T.heap
  exact He.glo_ok X G (T.c.fact 71 rfl)
theorem Txt.g_is_less (T : Txt K mg) : mg "is_less" = some (.ref (He.ga K "is_less")) := by
  obtain ⟨h, X, G⟩ := T.heap
  exact He.glo_ok X G (T.c.fact 72 rfl)
theorem Txt.g_turned_up (T : Txt K mg) : mg "turned_up" = some (.ref (He.ga K "turned_up")) := by
  obtain ⟨h, X, G⟩ := T.heap
  exact He.glo_ok X G (T.c.fact 73 rfl)
theorem Txt.g_nearest_whole (T : Txt K mg) : mg "nearest_whole" = some (.ref (He.ga K "nearest_whole")) := by
  obtain ⟨h, X, G⟩ := T.heap
  exact He.glo_ok X G (T.c.fact 74 rfl)
theorem Txt.g_lowest_place (T : Txt K mg) : mg "lowest_place" = some (.ref (He.ga K "lowest_place")) := by
  obtain ⟨h, X, G⟩ := T.heap
  exact He.glo_ok X G (T.c.fact 75 rfl)
theorem Txt.g_shares_of (T : Txt K mg) : mg "shares_of" = some (.ref (He.ga K "shares_of")) := by
  obtain ⟨h, X, G⟩ := T.heap
  exact He.glo_ok X G (T.c.fact 76 rfl)
theorem Txt.g_way (T : Txt K mg) : mg "way" = some (.ref (He.ga K "way")) := by
  obtain ⟨h, X, G⟩ := T.heap
  exact He.glo_ok X G (T.c.fact 77 rfl)
theorem Txt.g_place_on (T : Txt K mg) : mg "place_on" = some (.ref (He.ga K "place_on")) := by
  obtain ⟨h, X, G⟩ := T.heap
  exact He.glo_ok X G (T.c.fact 78 rfl)
theorem Txt.g_stands (T : Txt K mg) : mg "stands" = some (.ref (He.ga K "stands")) := by
  obtain ⟨h, X, G⟩ := T.heap
  exact He.glo_ok X G (T.c.fact 79 rfl)
theorem Txt.g_met_place (T : Txt K mg) : mg "met_place" = some (.ref (He.ga K "met_place")) := by
  obtain ⟨h, X, G⟩ := T.heap
  exact He.glo_ok X G (T.c.fact 80 rfl)
theorem Txt.g_places_of (T : Txt K mg) : mg "places_of" = some (.ref (He.ga K "places_of")) := by
  obtain ⟨h, X, G⟩ := T.heap
  exact He.glo_ok X G (T.c.fact 81 rfl)
theorem Txt.g_lines_by_station (T : Txt K mg) : mg "lines_by_station" = some (.ref (He.ga K "lines_by_station")) := by
  obtain ⟨h, X, G⟩ := T.heap
  exact He.glo_ok X G (T.c.fact 82 rfl)
theorem Txt.g_grounds (T : Txt K mg) : mg "grounds" = some (.ref (He.ga K "grounds")) := by
  obtain ⟨h, X, G⟩ := T.heap
  exact He.glo_ok X G (T.c.fact 83 rfl)
theorem Txt.g_can_be_told (T : Txt K mg) : mg "can_be_told" = some (.ref (He.ga K "can_be_told")) := by
  obtain ⟨h, X, G⟩ := T.heap
  exact He.glo_ok X G (T.c.fact 84 rfl)
theorem Txt.g_miss_of (T : Txt K mg) : mg "miss_of" = some (.ref (He.ga K "miss_of")) := by
  obtain ⟨h, X, G⟩ := T.heap
  exact He.glo_ok X G (T.c.fact 85 rfl)
theorem Txt.g_worst_tie (T : Txt K mg) : mg "worst_tie" = some (.ref (He.ga K "worst_tie")) := by
  obtain ⟨h, X, G⟩ := T.heap
  exact He.glo_ok X G (T.c.fact 86 rfl)
theorem Txt.g_stretch_of (T : Txt K mg) : mg "stretch_of" = some (.ref (He.ga K "stretch_of")) := by
  obtain ⟨h, X, G⟩ := T.heap
  exact He.glo_ok X G (T.c.fact 87 rfl)
theorem Txt.g_is_farther_off (T : Txt K mg) : mg "is_farther_off" = some (.ref (He.ga K "is_farther_off")) := by
  obtain ⟨h, X, G⟩ := T.heap
  exact He.glo_ok X G (T.c.fact 88 rfl)
theorem Txt.g_worst_line (T : Txt K mg) : mg "worst_line" = some (.ref (He.ga K "worst_line")) := by
  obtain ⟨h, X, G⟩ := T.heap
  exact He.glo_ok X G (T.c.fact 89 rfl)
theorem Txt.g_bytes_of (T : Txt K mg) : mg "bytes_of" = some (.ref (He.ga K "bytes_of")) := by
  obtain ⟨h, X, G⟩ := T.heap
  exact He.glo_ok X G (T.c.fact 90 rfl)
theorem Txt.g_is_letter (T : Txt K mg) : mg "is_letter" = some (.ref (He.ga K "is_letter")) := by
  obtain ⟨h, X, G⟩ := T.heap
  exact He.glo_ok X G (T.c.fact 91 rfl)
theorem Txt.g_is_digit (T : Txt K mg) : mg "is_digit" = some (.ref (He.ga K "is_digit")) := by
  obtain ⟨h, X, G⟩ := T.heap
  exact He.glo_ok X G (T.c.fact 92 rfl)
theorem Txt.g_is_word_byte (T : Txt K mg) : mg "is_word_byte" = some (.ref (He.ga K "is_word_byte")) := by
  obtain ⟨h, X, G⟩ := T.heap
  exact He.glo_ok X G (T.c.fact 93 rfl)
theorem Txt.g_is_quoted_byte (T : Txt K mg) : mg "is_quoted_byte" = some (.ref (He.ga K "is_quoted_byte")) := by
  obtain ⟨h, X, G⟩ := T.heap
  exact He.glo_ok X G (T.c.fact 94 rfl)
theorem Txt.g_number_of (T : Txt K mg) : mg "number_of" = some (.ref (He.ga K "number_of")) := by
  obtain ⟨h, X, G⟩ := T.heap
  exact He.glo_ok X G (T.c.fact 95 rfl)
theorem Txt.g_line_end (T : Txt K mg) : mg "line_end" = some (.ref (He.ga K "line_end")) := by
  obtain ⟨h, X, G⟩ := T.heap
  exact He.glo_ok X G (T.c.fact 96 rfl)
theorem Txt.g_word_end (T : Txt K mg) : mg "word_end" = some (.ref (He.ga K "word_end")) := by
  obtain ⟨h, X, G⟩ := T.heap
  exact He.glo_ok X G (T.c.fact 97 rfl)
theorem Txt.g_digits_end (T : Txt K mg) : mg "digits_end" = some (.ref (He.ga K "digits_end")) := by
  obtain ⟨h, X, G⟩ := T.heap
  exact He.glo_ok X G (T.c.fact 98 rfl)
theorem Txt.g_quoted_end (T : Txt K mg) : mg "quoted_end" = some (.ref (He.ga K "quoted_end")) := by
  obtain ⟨h, X, G⟩ := T.heap
  exact He.glo_ok X G (T.c.fact 99 rfl)
theorem Txt.g_blanks_end (T : Txt K mg) : mg "blanks_end" = some (.ref (He.ga K "blanks_end")) := by
  obtain ⟨h, X, G⟩ := T.heap
  exact He.glo_ok X G (T.c.fact 100 rfl)
theorem Txt.g_no_token (T : Txt K mg) : mg "no_token" = some (.ref (He.ga K "no_token")) := by
  obtain ⟨h, X, G⟩ := T.heap
  exact He.glo_ok X G (T.c.fact 101 rfl)
theorem Txt.g_word_at (T : Txt K mg) : mg "word_at" = some (.ref (He.ga K "word_at")) := by
  obtain ⟨h, X, G⟩ := T.heap
  exact He.glo_ok X G (T.c.fact 102 rfl)
theorem Txt.g_number_at (T : Txt K mg) : mg "number_at" = some (.ref (He.ga K "number_at")) := by
  obtain ⟨h, X, G⟩ := T.heap
  exact He.glo_ok X G (T.c.fact 103 rfl)
theorem Txt.g_text_at (T : Txt K mg) : mg "text_at" = some (.ref (He.ga K "text_at")) := by
  obtain ⟨h, X, G⟩ := T.heap
  exact He.glo_ok X G (T.c.fact 104 rfl)
theorem Txt.g_token_from (T : Txt K mg) : mg "token_from" = some (.ref (He.ga K "token_from")) := by
  obtain ⟨h, X, G⟩ := T.heap
  exact He.glo_ok X G (T.c.fact 105 rfl)
theorem Txt.g_joined (T : Txt K mg) : mg "joined" = some (.ref (He.ga K "joined")) := by
  obtain ⟨h, X, G⟩ := T.heap
  exact He.glo_ok X G (T.c.fact 106 rfl)
theorem Txt.g_names_bytes (T : Txt K mg) : mg "names_bytes" = some (.ref (He.ga K "names_bytes")) := by
  obtain ⟨h, X, G⟩ := T.heap
  exact He.glo_ok X G (T.c.fact 107 rfl)
theorem Txt.g_sentence_line (T : Txt K mg) : mg "sentence_line" = some (.ref (He.ga K "sentence_line")) := by
  obtain ⟨h, X, G⟩ := T.heap
  exact He.glo_ok X G (T.c.fact 108 rfl)
theorem Txt.g_beside_bytes (T : Txt K mg) : mg "beside_bytes" = some (.ref (He.ga K "beside_bytes")) := by
  obtain ⟨h, X, G⟩ := T.heap
  exact He.glo_ok X G (T.c.fact 109 rfl)
theorem Txt.g_entry_bytes (T : Txt K mg) : mg "entry_bytes" = some (.ref (He.ga K "entry_bytes")) := by
  obtain ⟨h, X, G⟩ := T.heap
  exact He.glo_ok X G (T.c.fact 110 rfl)
theorem Txt.g_known_line (T : Txt K mg) : mg "known_line" = some (.ref (He.ga K "known_line")) := by
  obtain ⟨h, X, G⟩ := T.heap
  exact He.glo_ok X G (T.c.fact 111 rfl)
theorem Txt.g_line_line (T : Txt K mg) : mg "line_line" = some (.ref (He.ga K "line_line")) := by
  obtain ⟨h, X, G⟩ := T.heap
  exact He.glo_ok X G (T.c.fact 112 rfl)
theorem Txt.g_book_bytes (T : Txt K mg) : mg "book_bytes" = some (.ref (He.ga K "book_bytes")) := by
  obtain ⟨h, X, G⟩ := T.heap
  exact He.glo_ok X G (T.c.fact 113 rfl)
theorem Txt.g_read_behind (T : Txt K mg) : mg "read_behind" = some (.ref (He.ga K "read_behind")) := by
  obtain ⟨h, X, G⟩ := T.heap
  exact He.glo_ok X G (T.c.fact 114 rfl)
theorem Txt.g_read_unit (T : Txt K mg) : mg "read_unit" = some (.ref (He.ga K "read_unit")) := by
  obtain ⟨h, X, G⟩ := T.heap
  exact He.glo_ok X G (T.c.fact 115 rfl)
theorem Txt.g_read_new_station (T : Txt K mg) : mg "read_new_station" = some (.ref (He.ga K "read_new_station")) := by
  obtain ⟨h, X, G⟩ := T.heap
  exact He.glo_ok X G (T.c.fact 116 rfl)
theorem Txt.g_read_known (T : Txt K mg) : mg "read_known" = some (.ref (He.ga K "read_known")) := by
  obtain ⟨h, X, G⟩ := T.heap
  exact He.glo_ok X G (T.c.fact 117 rfl)
theorem Txt.g_read_line (T : Txt K mg) : mg "read_line" = some (.ref (He.ga K "read_line")) := by
  obtain ⟨h, X, G⟩ := T.heap
  exact He.glo_ok X G (T.c.fact 118 rfl)
theorem Txt.g_read_entries (T : Txt K mg) : mg "read_entries" = some (.ref (He.ga K "read_entries")) := by
  obtain ⟨h, X, G⟩ := T.heap
  exact He.glo_ok X G (T.c.fact 119 rfl)
theorem Txt.g_read_entry (T : Txt K mg) : mg "read_entry" = some (.ref (He.ga K "read_entry")) := by
  obtain ⟨h, X, G⟩ := T.heap
  exact He.glo_ok X G (T.c.fact 120 rfl)
theorem Txt.g_read_chainage (T : Txt K mg) : mg "read_chainage" = some (.ref (He.ga K "read_chainage")) := by
  obtain ⟨h, X, G⟩ := T.heap
  exact He.glo_ok X G (T.c.fact 121 rfl)
theorem Txt.g_read_beside (T : Txt K mg) : mg "read_beside" = some (.ref (He.ga K "read_beside")) := by
  obtain ⟨h, X, G⟩ := T.heap
  exact He.glo_ok X G (T.c.fact 122 rfl)
theorem Txt.g_names_answer (T : Txt K mg) : mg "names_answer" = some (.ref (He.ga K "names_answer")) := by
  obtain ⟨h, X, G⟩ := T.heap
  exact He.glo_ok X G (T.c.fact 123 rfl)
theorem Txt.g_read_into (T : Txt K mg) : mg "read_into" = some (.ref (He.ga K "read_into")) := by
  obtain ⟨h, X, G⟩ := T.heap
  exact He.glo_ok X G (T.c.fact 124 rfl)
theorem Txt.g_do_book (T : Txt K mg) : mg "do_book" = some (.ref (He.ga K "do_book")) := by
  obtain ⟨h, X, G⟩ := T.heap
  exact He.glo_ok X G (T.c.fact 125 rfl)
theorem Txt.g_do_more (T : Txt K mg) : mg "do_more" = some (.ref (He.ga K "do_more")) := by
  obtain ⟨h, X, G⟩ := T.heap
  exact He.glo_ok X G (T.c.fact 126 rfl)
theorem Txt.g_do_print (T : Txt K mg) : mg "do_print" = some (.ref (He.ga K "do_print")) := by
  obtain ⟨h, X, G⟩ := T.heap
  exact He.glo_ok X G (T.c.fact 127 rfl)
theorem Txt.g_do_count (T : Txt K mg) : mg "do_count" = some (.ref (He.ga K "do_count")) := by
  obtain ⟨h, X, G⟩ := T.heap
  exact He.glo_ok X G (T.c.fact 128 rfl)
theorem Txt.g_do_where (T : Txt K mg) : mg "do_where" = some (.ref (He.ga K "do_where")) := by
  obtain ⟨h, X, G⟩ := T.heap
  exact He.glo_ok X G (T.c.fact 129 rfl)
theorem Txt.g_do_ground (T : Txt K mg) : mg "do_ground" = some (.ref (He.ga K "do_ground")) := by
  obtain ⟨h, X, G⟩ := T.heap
  exact He.glo_ok X G (T.c.fact 130 rfl)
theorem Txt.g_do_hangs (T : Txt K mg) : mg "do_hangs" = some (.ref (He.ga K "do_hangs")) := by
  obtain ⟨h, X, G⟩ := T.heap
  exact He.glo_ok X G (T.c.fact 131 rfl)
theorem Txt.g_do_lacking (T : Txt K mg) : mg "do_lacking" = some (.ref (He.ga K "do_lacking")) := by
  obtain ⟨h, X, G⟩ := T.heap
  exact He.glo_ok X G (T.c.fact 132 rfl)
theorem Txt.g_feature_refusal (T : Txt K mg) : mg "feature_refusal" = some (.ref (He.ga K "feature_refusal")) := by
  obtain ⟨h, X, G⟩ := T.heap
  exact He.glo_ok X G (T.c.fact 133 rfl)
theorem Txt.g_feature_places (T : Txt K mg) : mg "feature_places" = some (.ref (He.ga K "feature_places")) := by
  obtain ⟨h, X, G⟩ := T.heap
  exact He.glo_ok X G (T.c.fact 134 rfl)
theorem Txt.g_do_feature (T : Txt K mg) : mg "do_feature" = some (.ref (He.ga K "do_feature")) := by
  obtain ⟨h, X, G⟩ := T.heap
  exact He.glo_ok X G (T.c.fact 135 rfl)
theorem Txt.g_do_rounded (T : Txt K mg) : mg "do_rounded" = some (.ref (He.ga K "do_rounded")) := by
  obtain ⟨h, X, G⟩ := T.heap
  exact He.glo_ok X G (T.c.fact 136 rfl)
theorem Txt.g_do_tie (T : Txt K mg) : mg "do_tie" = some (.ref (He.ga K "do_tie")) := by
  obtain ⟨h, X, G⟩ := T.heap
  exact He.glo_ok X G (T.c.fact 137 rfl)
theorem Txt.g_do_worst_tie (T : Txt K mg) : mg "do_worst_tie" = some (.ref (He.ga K "do_worst_tie")) := by
  obtain ⟨h, X, G⟩ := T.heap
  exact He.glo_ok X G (T.c.fact 138 rfl)
theorem Txt.g_do_stretch (T : Txt K mg) : mg "do_stretch" = some (.ref (He.ga K "do_stretch")) := by
  obtain ⟨h, X, G⟩ := T.heap
  exact He.glo_ok X G (T.c.fact 139 rfl)
theorem Txt.g_do_worst_line (T : Txt K mg) : mg "do_worst_line" = some (.ref (He.ga K "do_worst_line")) := by
  obtain ⟨h, X, G⟩ := T.heap
  exact He.glo_ok X G (T.c.fact 140 rfl)
theorem Txt.g_do_move (T : Txt K mg) : mg "do_move" = some (.ref (He.ga K "do_move")) := by
  obtain ⟨h, X, G⟩ := T.heap
  exact He.glo_ok X G (T.c.fact 141 rfl)
theorem Txt.g_do_strike (T : Txt K mg) : mg "do_strike" = some (.ref (He.ga K "do_strike")) := by
  obtain ⟨h, X, G⟩ := T.heap
  exact He.glo_ok X G (T.c.fact 142 rfl)
theorem Txt.g_call_from (T : Txt K mg) : mg "call_from" = some (.ref (He.ga K "call_from")) := by
  obtain ⟨h, X, G⟩ := T.heap
  exact He.glo_ok X G (T.c.fact 143 rfl)
theorem Txt.g_answers (T : Txt K mg) : mg "answers" = some (.ref (He.ga K "answers")) := by
  obtain ⟨h, X, G⟩ := T.heap
  exact He.glo_ok X G (T.c.fact 144 rfl)
theorem Txt.n_abs (T : Txt K mg) : mg "abs" = none := by
  obtain ⟨h, X, G⟩ := T.heap
  exact He.free_ok X G (T.c.fact 145 rfl)
theorem Txt.n_len (T : Txt K mg) : mg "len" = none := by
  obtain ⟨h, X, G⟩ := T.heap
  exact He.free_ok X G (T.c.fact 146 rfl)
theorem Txt.n_ord (T : Txt K mg) : mg "ord" = none := by
  obtain ⟨h, X, G⟩ := T.heap
  exact He.free_ok X G (T.c.fact 147 rfl)
theorem Txt.n_isinstance (T : Txt K mg) : mg "isinstance" = none := by
  obtain ⟨h, X, G⟩ := T.heap
  exact He.free_ok X G (T.c.fact 148 rfl)
theorem Txt.n_max (T : Txt K mg) : mg "max" = none := by
  obtain ⟨h, X, G⟩ := T.heap
  exact He.free_ok X G (T.c.fact 149 rfl)
theorem Txt.n_min (T : Txt K mg) : mg "min" = none := by
  obtain ⟨h, X, G⟩ := T.heap
  exact He.free_ok X G (T.c.fact 150 rfl)
theorem Txt.n_list (T : Txt K mg) : mg "list" = none := by
  obtain ⟨h, X, G⟩ := T.heap
  exact He.free_ok X G (T.c.fact 151 rfl)
theorem Txt.n_tuple (T : Txt K mg) : mg "tuple" = none := by
  obtain ⟨h, X, G⟩ := T.heap
  exact He.free_ok X G (T.c.fact 152 rfl)
theorem Txt.n_range (T : Txt K mg) : mg "range" = none := by
  obtain ⟨h, X, G⟩ := T.heap
  exact He.free_ok X G (T.c.fact 153 rfl)
theorem Txt.n_enumerate (T : Txt K mg) : mg "enumerate" = none := by
  obtain ⟨h, X, G⟩ := T.heap
  exact He.free_ok X G (T.c.fact 154 rfl)
theorem Txt.c_Known (T : Txt K mg) : Cls K (He.ga K "Known") := He.cls_ok (T.c.fact 155 rfl)
theorem Txt.k_Known (T : Txt K mg) : Mk K (He.ga K "Known") (He.fAd K ("Known", some "__init__")) := He.mkr_ok (T.c.fact 156 rfl)
theorem Txt.a_Known_name (T : Txt K mg) : NoAttr K (He.ga K "Known") "name" := He.noat_ok (T.c.fact 157 rfl)
theorem Txt.a_Known_x (T : Txt K mg) : NoAttr K (He.ga K "Known") "x" := He.noat_ok (T.c.fact 158 rfl)
theorem Txt.a_Known_y (T : Txt K mg) : NoAttr K (He.ga K "Known") "y" := He.noat_ok (T.c.fact 159 rfl)
theorem Txt.c_Entry (T : Txt K mg) : Cls K (He.ga K "Entry") := He.cls_ok (T.c.fact 160 rfl)
theorem Txt.k_Entry (T : Txt K mg) : Mk K (He.ga K "Entry") (He.fAd K ("Entry", some "__init__")) := He.mkr_ok (T.c.fact 161 rfl)
theorem Txt.a_Entry_chainage (T : Txt K mg) : NoAttr K (He.ga K "Entry") "chainage" := He.noat_ok (T.c.fact 162 rfl)
theorem Txt.a_Entry_kind (T : Txt K mg) : NoAttr K (He.ga K "Entry") "kind" := He.noat_ok (T.c.fact 163 rfl)
theorem Txt.a_Entry_name (T : Txt K mg) : NoAttr K (He.ga K "Entry") "name" := He.noat_ok (T.c.fact 164 rfl)
theorem Txt.a_Entry_number (T : Txt K mg) : NoAttr K (He.ga K "Entry") "number" := He.noat_ok (T.c.fact 165 rfl)
theorem Txt.a_Entry_beside (T : Txt K mg) : NoAttr K (He.ga K "Entry") "beside" := He.noat_ok (T.c.fact 166 rfl)
theorem Txt.c_Line (T : Txt K mg) : Cls K (He.ga K "Line") := He.cls_ok (T.c.fact 167 rfl)
theorem Txt.k_Line (T : Txt K mg) : Mk K (He.ga K "Line") (He.fAd K ("Line", some "__init__")) := He.mkr_ok (T.c.fact 168 rfl)
theorem Txt.a_Line_first (T : Txt K mg) : NoAttr K (He.ga K "Line") "first" := He.noat_ok (T.c.fact 169 rfl)
theorem Txt.a_Line_second (T : Txt K mg) : NoAttr K (He.ga K "Line") "second" := He.noat_ok (T.c.fact 170 rfl)
theorem Txt.a_Line_measure (T : Txt K mg) : NoAttr K (He.ga K "Line") "measure" := He.noat_ok (T.c.fact 171 rfl)
theorem Txt.a_Line_entries (T : Txt K mg) : NoAttr K (He.ga K "Line") "entries" := He.noat_ok (T.c.fact 172 rfl)
theorem Txt.c_Book (T : Txt K mg) : Cls K (He.ga K "Book") := He.cls_ok (T.c.fact 173 rfl)
theorem Txt.k_Book (T : Txt K mg) : Mk K (He.ga K "Book") (He.fAd K ("Book", some "__init__")) := He.mkr_ok (T.c.fact 174 rfl)
theorem Txt.a_Book_metres (T : Txt K mg) : NoAttr K (He.ga K "Book") "metres" := He.noat_ok (T.c.fact 175 rfl)
theorem Txt.a_Book_links (T : Txt K mg) : NoAttr K (He.ga K "Book") "links" := He.noat_ok (T.c.fact 176 rfl)
theorem Txt.a_Book_sentences (T : Txt K mg) : NoAttr K (He.ga K "Book") "sentences" := He.noat_ok (T.c.fact 177 rfl)
theorem Txt.c_Token (T : Txt K mg) : Cls K (He.ga K "Token") := He.cls_ok (T.c.fact 178 rfl)
theorem Txt.k_Token (T : Txt K mg) : Mk K (He.ga K "Token") (He.fAd K ("Token", some "__init__")) := He.mkr_ok (T.c.fact 179 rfl)
theorem Txt.a_Token_kind (T : Txt K mg) : NoAttr K (He.ga K "Token") "kind" := He.noat_ok (T.c.fact 180 rfl)
theorem Txt.a_Token_row (T : Txt K mg) : NoAttr K (He.ga K "Token") "row" := He.noat_ok (T.c.fact 181 rfl)
theorem Txt.a_Token_at (T : Txt K mg) : NoAttr K (He.ga K "Token") "at" := He.noat_ok (T.c.fact 182 rfl)
theorem Txt.a_Token_behind (T : Txt K mg) : NoAttr K (He.ga K "Token") "behind" := He.noat_ok (T.c.fact 183 rfl)
theorem Txt.h_Fault (T : Txt K mg) : Meth K (He.ga K "Fault") "__init__" (He.fAd K ("Fault", some "__init__")) := He.meth_ok (T.c.fact 184 rfl)
theorem Txt.a_Fault_kind (T : Txt K mg) : NoAttr K (He.ga K "Fault") "kind" := He.noat_ok (T.c.fact 185 rfl)
theorem Txt.a_Fault_at (T : Txt K mg) : NoAttr K (He.ga K "Fault") "at" := He.noat_ok (T.c.fact 186 rfl)
theorem Txt.c_Tally (T : Txt K mg) : Cls K (He.ga K "Tally") := He.cls_ok (T.c.fact 187 rfl)
theorem Txt.k_Tally (T : Txt K mg) : Mk K (He.ga K "Tally") (He.fAd K ("Tally", some "__init__")) := He.mkr_ok (T.c.fact 188 rfl)
theorem Txt.a_Tally_stations (T : Txt K mg) : NoAttr K (He.ga K "Tally") "stations" := He.noat_ok (T.c.fact 189 rfl)
theorem Txt.a_Tally_many_lines (T : Txt K mg) : NoAttr K (He.ga K "Tally") "many_lines" := He.noat_ok (T.c.fact 190 rfl)
theorem Txt.a_Tally_many_entries (T : Txt K mg) : NoAttr K (He.ga K "Tally") "many_entries" := He.noat_ok (T.c.fact 191 rfl)
theorem Txt.c_Reader (T : Txt K mg) : Cls K (He.ga K "Reader") := He.cls_ok (T.c.fact 192 rfl)
theorem Txt.k_Reader (T : Txt K mg) : Mk K (He.ga K "Reader") (He.fAd K ("Reader", some "__init__")) := He.mkr_ok (T.c.fact 193 rfl)
theorem Txt.a_Reader_text (T : Txt K mg) : NoAttr K (He.ga K "Reader") "text" := He.noat_ok (T.c.fact 194 rfl)
theorem Txt.a_Reader_token (T : Txt K mg) : NoAttr K (He.ga K "Reader") "token" := He.noat_ok (T.c.fact 195 rfl)
theorem Txt.c_Land (T : Txt K mg) : Cls K (He.ga K "Land") := He.cls_ok (T.c.fact 196 rfl)
theorem Txt.k_Land (T : Txt K mg) : Mk K (He.ga K "Land") (He.fAd K ("Land", some "__init__")) := He.mkr_ok (T.c.fact 197 rfl)
theorem Txt.a_Land_book (T : Txt K mg) : NoAttr K (He.ga K "Land") "book" := He.noat_ok (T.c.fact 198 rfl)
theorem Txt.a_Land_places (T : Txt K mg) : NoAttr K (He.ga K "Land") "places" := He.noat_ok (T.c.fact 199 rfl)
theorem Txt.h_Tally_add_station (T : Txt K mg) : Meth K (He.ga K "Tally") "add_station" (He.fAd K ("Tally", some "add_station")) := He.meth_ok (T.c.fact 200 rfl)
theorem Txt.h_Tally_add_line (T : Txt K mg) : Meth K (He.ga K "Tally") "add_line" (He.fAd K ("Tally", some "add_line")) := He.meth_ok (T.c.fact 201 rfl)
theorem Txt.h_Tally_add_entry (T : Txt K mg) : Meth K (He.ga K "Tally") "add_entry" (He.fAd K ("Tally", some "add_entry")) := He.meth_ok (T.c.fact 202 rfl)
theorem Txt.h_Reader_look (T : Txt K mg) : Meth K (He.ga K "Reader") "look" (He.fAd K ("Reader", some "look")) := He.meth_ok (T.c.fact 203 rfl)
theorem Txt.h_Reader_place (T : Txt K mg) : Meth K (He.ga K "Reader") "place" (He.fAd K ("Reader", some "place")) := He.meth_ok (T.c.fact 204 rfl)
theorem Txt.h_Reader_sees (T : Txt K mg) : Meth K (He.ga K "Reader") "sees" (He.fAd K ("Reader", some "sees")) := He.meth_ok (T.c.fact 205 rfl)
theorem Txt.h_Reader_sees_word (T : Txt K mg) : Meth K (He.ga K "Reader") "sees_word" (He.fAd K ("Reader", some "sees_word")) := He.meth_ok (T.c.fact 206 rfl)
theorem Txt.h_Reader_sees_sign (T : Txt K mg) : Meth K (He.ga K "Reader") "sees_sign" (He.fAd K ("Reader", some "sees_sign")) := He.meth_ok (T.c.fact 207 rfl)
theorem Txt.h_Reader_sees_name (T : Txt K mg) : Meth K (He.ga K "Reader") "sees_name" (He.fAd K ("Reader", some "sees_name")) := He.meth_ok (T.c.fact 208 rfl)
theorem Txt.h_Reader_take (T : Txt K mg) : Meth K (He.ga K "Reader") "take" (He.fAd K ("Reader", some "take")) := He.meth_ok (T.c.fact 209 rfl)
theorem Txt.h_Reader_take_word (T : Txt K mg) : Meth K (He.ga K "Reader") "take_word" (He.fAd K ("Reader", some "take_word")) := He.meth_ok (T.c.fact 210 rfl)
theorem Txt.h_Reader_take_sign (T : Txt K mg) : Meth K (He.ga K "Reader") "take_sign" (He.fAd K ("Reader", some "take_sign")) := He.meth_ok (T.c.fact 211 rfl)
theorem Txt.h_Reader_take_name (T : Txt K mg) : Meth K (He.ga K "Reader") "take_name" (He.fAd K ("Reader", some "take_name")) := He.meth_ok (T.c.fact 212 rfl)
theorem Txt.h_Reader_take_number (T : Txt K mg) : Meth K (He.ga K "Reader") "take_number" (He.fAd K ("Reader", some "take_number")) := He.meth_ok (T.c.fact 213 rfl)
theorem Txt.h_Land_hold (T : Txt K mg) : Meth K (He.ga K "Land") "hold" (He.fAd K ("Land", some "hold")) := He.meth_ok (T.c.fact 214 rfl)
end
section
variable {K : PySem.W.Frag} {mg : Str → Option Value}
theorem Txt.t_BLANKS (T : Txt K mg) (H : Hp) : SqT K H (He.ga K "BLANKS") [.int 32, .int 9, .int 10, .int 13] := He.tupB_ok (He.ba T.x).1 H
theorem Txt.t_SIGNS (T : Txt K mg) (H : Hp) : SqT K H (He.ga K "SIGNS") [.int 40, .int 41, .int 43, .int 44, .int 45, .int 47, .int 58, .int 59, .int 61] := He.tupB_ok (He.ba (He.ba T.x).2).1 H
theorem Txt.t_KEPT (T : Txt K mg) (H : Hp) : SqT K H (He.ga K "KEPT") [.str "unit", .str "known", .str "at", .str "line", .str "to", .str "measures", .str "station", .str "tie", .str "feature", .str "left", .str "right"] := He.tupB_ok (He.ba (He.ba (He.ba T.x).2).2).1 H
theorem Txt.isis (T : Txt K mg) : xIsis K = true := (He.ba (He.ba (He.ba (He.ba T.x).2).2).2).1
theorem Txt.y (T : Txt K mg) : ytra K = true := (He.ba (He.ba (He.ba (He.ba T.x).2).2).2).2
theorem xIsi_ok {x y : Str} {b : Bool} (h : xIsi K x y b = true) (c : Cls K (He.ga K x)) {H : Hp} {a dx : Addr} {fs : List (Str × V)} (e : H a = some (.ins (He.ga K x) dx fs)) {Q : VK} (q : Q (.bl b) H) : rIsi K [.ref a, .ref (He.ga K y)] H Q := by
  obtain ⟨h1, h⟩ := He.ba h
  obtain ⟨h2, h⟩ := He.ba h
  obtain ⟨h3, h⟩ := He.ba h
  obtain ⟨h4, h5⟩ := He.ba h
  exact ⟨_, _, _, _, b, rfl, .own _, .base (.ins e c (He.eqO_ok h1) (He.eqO_ok h2) (of_decide_eq_true h3) (of_decide_eq_true h4)), of_decide_eq_true h5, q⟩
end
/-! ### promises by the number of parameters -/
def sp0 (p : Hp → VK → XK → Prop) : Sp := fun vs H Q E => vs = [] ∧ p H Q E
def sp1 (p : V → Hp → VK → XK → Prop) : Sp := fun vs H Q E => ∃ a, vs = [a] ∧ p a H Q E
def sp2 (p : V → V → Hp → VK → XK → Prop) : Sp := fun vs H Q E => ∃ a b, vs = [a, b] ∧ p a b H Q E
def sp3 (p : V → V → V → Hp → VK → XK → Prop) : Sp := fun vs H Q E => ∃ a b c, vs = [a, b, c] ∧ p a b c H Q E
def sp4 (p : V → V → V → V → Hp → VK → XK → Prop) : Sp := fun vs H Q E => ∃ a b c d, vs = [a, b, c, d] ∧ p a b c d H Q E
def sp5 (p : V → V → V → V → V → Hp → VK → XK → Prop) : Sp := fun vs H Q E => ∃ a b c d e, vs = [a, b, c, d, e] ∧ p a b c d e H Q E
def sp6 (p : V → V → V → V → V → V → Hp → VK → XK → Prop) : Sp := fun vs H Q E => ∃ a b c d e f, vs = [a, b, c, d, e, f] ∧ p a b c d e f H Q E
theorem len0 {p} : ∀ vs H Q E, sp0 p vs H Q E → vs.length = 0 := fun _ _ _ _ ⟨e, _⟩ => by rw [e]; rfl
theorem len1 {p} : ∀ vs H Q E, sp1 p vs H Q E → vs.length = 1 := fun _ _ _ _ ⟨_, e, _⟩ => by rw [e]; rfl
theorem len2 {p} : ∀ vs H Q E, sp2 p vs H Q E → vs.length = 2 := fun _ _ _ _ ⟨_, _, e, _⟩ => by rw [e]; rfl
theorem len3 {p} : ∀ vs H Q E, sp3 p vs H Q E → vs.length = 3 := fun _ _ _ _ ⟨_, _, _, e, _⟩ => by rw [e]; rfl
theorem len4 {p} : ∀ vs H Q E, sp4 p vs H Q E → vs.length = 4 := fun _ _ _ _ ⟨_, _, _, _, e, _⟩ => by rw [e]; rfl
theorem len5 {p} : ∀ vs H Q E, sp5 p vs H Q E → vs.length = 5 := fun _ _ _ _ ⟨_, _, _, _, _, e, _⟩ => by rw [e]; rfl
theorem len6 {p} : ∀ vs H Q E, sp6 p vs H Q E → vs.length = 6 := fun _ _ _ _ ⟨_, _, _, _, _, _, e, _⟩ => by rw [e]; rfl
section
variable {H : Hp} {Q : VK} {E : XK} {a b c d e f : V}
theorem sp1i {p} (h : p a H Q E) : sp1 p [a] H Q E := ⟨_, rfl, h⟩
theorem sp2i {p} (h : p a b H Q E) : sp2 p [a, b] H Q E := ⟨_, _, rfl, h⟩
theorem sp3i {p} (h : p a b c H Q E) : sp3 p [a, b, c] H Q E := ⟨_, _, _, rfl, h⟩
theorem sp4i {p} (h : p a b c d H Q E) : sp4 p [a, b, c, d] H Q E := ⟨_, _, _, _, rfl, h⟩
theorem sp5i {p} (h : p a b c d e H Q E) : sp5 p [a, b, c, d, e] H Q E := ⟨_, _, _, _, _, rfl, h⟩
theorem sp6i {p} (h : p a b c d e f H Q E) : sp6 p [a, b, c, d, e, f] H Q E := ⟨_, _, _, _, _, _, rfl, h⟩
end
/-! ### a def that keeps its promise, by its name -/
structure Ok (P : Program) (w : World) (K : PySem.W.Frag) (mg : Str → Option Value) (base : Heap) (CX : CXT) (k : Nat) (nm : Str × Option Str) (ps : List Str) (sp : Sp) : Prop where
  ex : ∃ fd, FnOk P w K mg base CX k (He.fAd K nm) fd ps sp ∧ Binds K fd ps []
  kp : PySem.W.keepIn K (.ref (He.fAd K nm)) = true
  g : mg nm.1 = some (.ref (He.ga K nm.1))
section
variable {P : Program} {w : World} {K : PySem.W.Frag} {mg : Str → Option Value} {base : Heap}
theorem mk_ok (T : Txt K mg) (i : Nat) {at_ : Str × Option Str} {x qual : Str} {params : Arguments} {body : List Stmt} {scope : Scope} {N ps : List Str} {k : Nat} {sp : Sp} (hd : fn[i]? = some ⟨at_, x, qual, params, body, scope, [], []⟩) (S : FnScope N ps scope)
    (g : mg at_.1 = some (.ref (He.ga K at_.1)))
    (hb : ∀ (kV doc pm : Value) (an : Option Addr) (cdv ct : Value) (us : List Value), us.length = ps.length → bindArgs (PySem.W.fnOf x qual params body scope .none kV doc pm an cdv ct) ⟨us, []⟩ = pure (ps.zip us))
    (len : ∀ vs H Q E, sp vs H Q E → vs.length = ps.length)
    (hbody : ∀ (cdv : Value) (A : Around) (outer : List Env) (s : Shared) (H : Hp) (vs : List V) (Q : VK) (E : XK), Room k (A.deeper (envOfC qual scope s.heap.objs.size (He.fAd K at_) cdv)) → sp vs H Q E →
      ∃ t, PSs (cxOf CX0 P w K mg base N qual scope (He.fAd K at_) cdv A outer s H E).nox body t ∧ t { nx := fun _ H' => Q .non H', rt := Q } (start N vs) H) : Ok P w K mg base CX0 (k + 1) at_ ps sp := by
  obtain ⟨fd, F⟩ := T.c.def_ i hd
  refine ⟨⟨fd, F.ok S len fun cdv A outer s H vs Q E hr h => ?_, F.bindsN hb⟩, F.kp, g⟩
  obtain ⟨t, h1, h2⟩ := hbody cdv A outer s H vs Q E hr h
  exact ⟨t, PSs.nox h1, h2⟩
theorem mk_okX (T : Txt K mg) (i : Nat) {at_ : Str × Option Str} {x qual : Str} {params : Arguments} {body : List Stmt} {scope : Scope} {N ps : List Str} {k : Nat} {sp : Sp} (hd : fn[i]? = some ⟨at_, x, qual, params, body, scope, [], []⟩) (S : FnScope N ps scope)
    (g : mg at_.1 = some (.ref (He.ga K at_.1)))
    (hb : ∀ (kV doc pm : Value) (an : Option Addr) (cdv ct : Value) (us : List Value), us.length = ps.length → bindArgs (PySem.W.fnOf x qual params body scope .none kV doc pm an cdv ct) ⟨us, []⟩ = pure (ps.zip us))
    (len : ∀ vs H Q E, sp vs H Q E → vs.length = ps.length)
    (hbody : ∀ (cdv : Value) (A : Around) (outer : List Env) (s : Shared) (H : Hp) (vs : List V) (Q : VK) (E : XK), Room k (A.deeper (envOfC qual scope s.heap.objs.size (He.fAd K at_) cdv)) → sp vs H Q E →
      ∃ t, PSs (cxOf (L2.CX P w) P w K mg base N qual scope (He.fAd K at_) cdv A outer s H E) body t ∧ t { nx := fun _ H' => Q .non H', rt := Q } (start N vs) H) : Ok P w K mg base (L2.CX P w) (k + 1) at_ ps sp := by
  obtain ⟨fd, F⟩ := T.c.def_ i hd
  exact ⟨⟨fd, F.ok S len hbody, F.bindsN hb⟩, F.kp, g⟩
end
/-! ### calls in short -/
def rOrd : List V → Hp → VK → Prop := fun xs H Q => ∃ x, xs = [.str x] ∧ x.length = 1 ∧ Q (.int (x.cps.getD 0 0 : Nat)) H
theorem call_ord1 {X : Cx} : CallR X (.builtin "ord") rOrd := call_ord
section
variable {X : Cx} {k n : Nat} {nm m : Str} {ps : List Str} {sp : Sp} {E : XK} {e o : Expr} {es : List Expr} {t : TA} {ta : TE} {p pos apos : Pos}
theorem hu65 {A : Around} (hr : Room k A) : A.units + 65 < cLine := by
  have := hr.un
  omega
theorem pe_cst {i : Int} (h : ∃ t, X.mg nm = some (.int i t)) (hg : Gl X nm := by rfl) (hd : (nm == ("__debug__" : Str)) = false := by decide) : PE X (.Name nm pos) (tC (.int i)) := by
  obtain ⟨t, h⟩ := h
  exact pe_glob hg h ⟨t, rfl⟩ hd
theorem pe_gref {a : Addr} (h : X.mg nm = some (.ref a)) (hg : Gl X nm := by rfl) (hd : (nm == ("__debug__" : Str)) = false := by decide) : PE X (.Name nm pos) (tC (.ref a)) := pe_glob hg h rfl hd
theorem pe_c (G : Ok X.prog X.w X.K X.mg X.base CX0 k (nm, none) ps sp) (hr : Room n X.A) (ha : PA X (e :: es) t) (hk : k ≤ n := by decide) (hg : Gl X nm := by rfl) (hdb : (nm == ("__debug__" : Str)) = false := by decide)
    (he : starEach (e :: es) X.env = (false, eval e X.env) :: starEach es X.env := by rfl) (hpl : (backTo pos (starEach es X.env)).any (·.1) = false := by rfl) : PE X (.Call (.Name nm p) (e :: es) [] pos) (tCall sp [] E0 t) := by
  obtain ⟨fd, F, b⟩ := G.ex
  exact pe_call F (hr.mono hk) hg G.g G.kp b .nil pass0 ha hdb he hpl
theorem pe_c0 (G : Ok X.prog X.w X.K X.mg X.base CX0 k (nm, none) ps sp) (hr : Room n X.A) (hk : k ≤ n := by decide) (hg : Gl X nm := by rfl) (hdb : (nm == ("__debug__" : Str)) = false := by decide) : PE X (.Call (.Name nm p) [] [] pos) (tCall sp [] E0 tNil) := by
  obtain ⟨fd, F, b⟩ := G.ex
  exact pe_call0 F (hr.mono hk) hg G.g G.kp b .nil pass0 hdb
theorem pe_cX (G : Ok X.prog X.w X.K X.mg X.base (L2.CX X.prog X.w) k (nm, none) ps sp) (hr : Room n X.A) (tk : Takes X (fun cls d _ H => E cls d H)) (ha : PA X (e :: es) t) (hk : k ≤ n := by decide) (hg : Gl X nm := by rfl) (hdb : (nm == ("__debug__" : Str)) = false := by decide)
    (he : starEach (e :: es) X.env = (false, eval e X.env) :: starEach es X.env := by rfl) (hpl : (backTo pos (starEach es X.env)).any (·.1) = false := by rfl) : PE X (.Call (.Name nm p) (e :: es) [] pos) (tCall sp [] E t) := by
  obtain ⟨fd, F, b⟩ := G.ex
  exact pe_call F (hr.mono hk) hg G.g G.kp b .nil (passes_call tk fun _ _ _ _ h => h) ha hdb he hpl
theorem pe_k (M : Mk X.K (He.ga X.K nm) (He.fAd X.K (nm, some "__init__"))) (G : Ok X.prog X.w X.K X.mg X.base CX0 k (nm, some "__init__") ps sp) (hr : Room n X.A) (ha : PA X (e :: es) t) (hk : k + 1 ≤ n := by decide) (hg : Gl X nm := by rfl) (hdb : (nm == ("__debug__" : Str)) = false := by decide)
    (he : starEach (e :: es) X.env = (false, eval e X.env) :: starEach es X.env := by rfl) (hpl : (backTo pos (starEach es X.env)).any (·.1) = false := by rfl) : PE X (.Call (.Name nm p) (e :: es) [] pos) (tMake (He.ga X.K nm) sp [] E0 t) := by
  obtain ⟨fd, F, b⟩ := G.ex
  exact pe_make M F (hr.mono hk) hg G.g b .nil pass0 ha hdb he hpl
theorem pe_kX (M : Mk X.K (He.ga X.K nm) (He.fAd X.K (nm, some "__init__"))) (G : Ok X.prog X.w X.K X.mg X.base (L2.CX X.prog X.w) k (nm, some "__init__") ps sp) (hr : Room n X.A) (tk : Takes X (fun cls d _ H => E cls d H)) (ha : PA X (e :: es) t) (hk : k + 1 ≤ n := by decide) (hg : Gl X nm := by rfl) (hdb : (nm == ("__debug__" : Str)) = false := by decide)
    (he : starEach (e :: es) X.env = (false, eval e X.env) :: starEach es X.env := by rfl) (hpl : (backTo pos (starEach es X.env)).any (·.1) = false := by rfl) : PE X (.Call (.Name nm p) (e :: es) [] pos) (tMake (He.ga X.K nm) sp [] E t) := by
  obtain ⟨fd, F, b⟩ := G.ex
  exact pe_make M F (hr.mono hk) hg G.g b .nil (passes_call tk fun _ _ _ _ h => h) ha hdb he hpl
theorem pe_k0 (M : Mk X.K (He.ga X.K nm) (He.fAd X.K (nm, some "__init__"))) (G : Ok X.prog X.w X.K X.mg X.base CX0 k (nm, some "__init__") ps sp) (hr : Room n X.A) (hk : k + 1 ≤ n := by decide) (hg : Gl X nm := by rfl) (hdb : (nm == ("__debug__" : Str)) = false := by decide) :
    PE X (.Call (.Name nm p) [] [] pos) (tMake (He.ga X.K nm) sp [] E0 tNil) := by
  obtain ⟨fd, F, b⟩ := G.ex
  exact pe_make0 M F (hr.mono hk) hg G.g b .nil pass0 hdb
theorem pe_m {pl : Sem Bool} (he : PE X o ta) (c : Cls X.K (He.ga X.K nm)) (hm : Meth X.K (He.ga X.K nm) m (He.fAd X.K (nm, some m))) (G : Ok X.prog X.w X.K X.mg X.base CX0 k (nm, some m) ps sp) (hr : Room n X.A) (ha : PA X (e :: es) t) (hk : k ≤ n := by decide)
    (hst : starEach (e :: es) X.env = (false, eval e X.env) :: starEach es X.env := by rfl) (hpl : (backTo pos (starEach es X.env)).any (·.1) = false := by rfl)
    (ht : eval (.Call (.Attribute o m apos) (e :: es) [] pos) X.env = (do
      let ov ← eval o X.env
      standAt apos.atName
      let (f, first) ← holding [ov] (getMethod ov m pl)
      callWith pos f first (backTo pos (starEach (e :: es) X.env)) (backToKw pos (keywordEach [] X.env))) := by rfl) :
    PE X (.Call (.Attribute o m apos) (e :: es) [] pos) (tMeth (He.ga X.K nm) m sp [] E0 ta t) := by
  obtain ⟨fd, F, b⟩ := G.ex
  exact pe_meth he c hm F (hr.mono hk) b .nil pass0 ha hst hpl ht
theorem pe_m0 {pl : Sem Bool} (he : PE X o ta) (c : Cls X.K (He.ga X.K nm)) (hm : Meth X.K (He.ga X.K nm) m (He.fAd X.K (nm, some m))) (G : Ok X.prog X.w X.K X.mg X.base CX0 k (nm, some m) ps sp) (hr : Room n X.A) (hk : k ≤ n := by decide)
    (ht : eval (.Call (.Attribute o m apos) [] [] pos) X.env = (do
      let ov ← eval o X.env
      standAt apos.atName
      let (f, first) ← holding [ov] (getMethod ov m pl)
      callWith pos f first (backTo pos (starEach [] X.env)) (backToKw pos (keywordEach [] X.env))) := by rfl) :
    PE X (.Call (.Attribute o m apos) [] [] pos) (tMeth (He.ga X.K nm) m sp [] E0 ta tNil) := by
  obtain ⟨fd, F, b⟩ := G.ex
  exact pe_meth0 he c hm F (hr.mono hk) b .nil pass0 ht
theorem pe_mX {pl : Sem Bool} (he : PE X o ta) (c : Cls X.K (He.ga X.K nm)) (hm : Meth X.K (He.ga X.K nm) m (He.fAd X.K (nm, some m))) (G : Ok X.prog X.w X.K X.mg X.base (L2.CX X.prog X.w) k (nm, some m) ps sp) (hr : Room n X.A) (tk : Takes X (fun cls d _ H => E cls d H)) (ha : PA X (e :: es) t) (hk : k ≤ n := by decide)
    (hst : starEach (e :: es) X.env = (false, eval e X.env) :: starEach es X.env := by rfl) (hpl : (backTo pos (starEach es X.env)).any (·.1) = false := by rfl)
    (ht : eval (.Call (.Attribute o m apos) (e :: es) [] pos) X.env = (do
      let ov ← eval o X.env
      standAt apos.atName
      let (f, first) ← holding [ov] (getMethod ov m pl)
      callWith pos f first (backTo pos (starEach (e :: es) X.env)) (backToKw pos (keywordEach [] X.env))) := by rfl) :
    PE X (.Call (.Attribute o m apos) (e :: es) [] pos) (tMeth (He.ga X.K nm) m sp [] E ta t) := by
  obtain ⟨fd, F, b⟩ := G.ex
  exact pe_meth he c hm F (hr.mono hk) b .nil (passes_call tk fun _ _ _ _ h => h) ha hst hpl ht
theorem pe_mX0 {pl : Sem Bool} (he : PE X o ta) (c : Cls X.K (He.ga X.K nm)) (hm : Meth X.K (He.ga X.K nm) m (He.fAd X.K (nm, some m))) (G : Ok X.prog X.w X.K X.mg X.base (L2.CX X.prog X.w) k (nm, some m) ps sp) (hr : Room n X.A) (tk : Takes X (fun cls d _ H => E cls d H)) (hk : k ≤ n := by decide)
    (ht : eval (.Call (.Attribute o m apos) [] [] pos) X.env = (do
      let ov ← eval o X.env
      standAt apos.atName
      let (f, first) ← holding [ov] (getMethod ov m pl)
      callWith pos f first (backTo pos (starEach [] X.env)) (backToKw pos (keywordEach [] X.env))) := by rfl) :
    PE X (.Call (.Attribute o m apos) [] [] pos) (tMeth (He.ga X.K nm) m sp [] E ta tNil) := by
  obtain ⟨fd, F, b⟩ := G.ex
  exact pe_meth0 he c hm F (hr.mono hk) b .nil (passes_call tk fun _ _ _ _ h => h) ht
end
end CB
end
section
set_option Elab.async false
set_option linter.all false
set_option maxRecDepth 100000
set_option maxHeartbeats 0
namespace CB
section
open PySem PySem.W PySem.Calls PyProof.Rows
abbrev RW0 : OpenSpec := PySem.Challenge.rw_chainbook_s01_answers
abbrev qv : Program := view RW0.prog [155]
def names0 : List PySem.Str := ["__name__", "STATION", "TIE", "FEATURE", "Known", "Entry", "Line", "Book", "empty_book", "has_unit", "is_nothing_told", "knowns_of", "lines_of", "entries_of", "met_of", "names_set", "names_told", "moved", "struck", "MOST_TEXT"]
def names1 : List PySem.Str := ["MOST_NAME", "MOST_STATIONS", "MOST_LINES", "MOST_ENTRIES", "TOP_COORDINATE", "TOP_UNIT", "TOP_LINKS", "TOP_FEATURE", "TOP_BESIDE", "is_coordinate", "is_feature_number", "common_divisor", "lowest", "is_less", "turned_up", "nearest_whole", "lowest_place", "shares_of", "way", "place_on"]
def names2 : List PySem.Str := ["stands", "met_place", "places_of", "lines_by_station", "grounds", "can_be_told", "miss_of", "worst_tie", "stretch_of", "is_farther_off", "worst_line", "NO_TOKEN", "END", "WORD", "NUMBER", "TEXT", "SIGN", "LINE_FEED", "BLANKS", "QUOTE"]
def names3 : List PySem.Str := ["BACKSLASH", "PERCENT", "UNDERSCORE", "COMMA", "SLASH", "COLON", "SEMICOLON", "SIGNS", "MOST_DIGITS", "MOST_QUOTED", "Token", "bytes_of", "is_letter", "is_digit", "is_word_byte", "is_quoted_byte", "number_of", "line_end", "word_end", "digits_end"]
def names4 : List PySem.Str := ["quoted_end", "blanks_end", "no_token", "word_at", "number_at", "text_at", "token_from", "joined", "names_bytes", "sentence_line", "beside_bytes", "entry_bytes", "known_line", "line_line", "book_bytes", "NO_SUCH_TOKEN", "CANNOT_STAND", "NOT_IN_BOUNDS", "SET_ALREADY", "WRONG_CHAINAGE"]
def names5 : List PySem.Str := ["TOO_MANY", "SAME_STATION", "KEPT", "Fault", "Tally", "Reader", "read_behind", "read_unit", "read_new_station", "read_known", "read_line", "read_entries", "read_entry", "read_chainage", "read_beside", "TOO_LONG", "OUT_OF_BOUNDS", "NOTHING_YET", "NO_SUCH", "NOT_NOW"]
def names6 : List PySem.Str := ["FAULTY", "names_answer", "read_into", "do_book", "do_more", "do_print", "do_count", "do_where", "do_ground", "do_hangs", "do_lacking", "feature_refusal", "feature_places", "do_feature", "do_rounded", "do_tie", "do_worst_tie", "do_stretch", "do_worst_line", "do_move"]
def names7 : List PySem.Str := ["do_strike", "Land", "FORMS", "DEEDS", "call_from"]
def names : List PySem.Str := names0 ++ names1 ++ names2 ++ names3 ++ names4 ++ names5 ++ names6 ++ names7
/-- the objects that stand behind the top -/
def adr : List Addr := [3, 6, 4, 31, 52, 73, 94, 105, 112, 119, 124, 129, 134, 139, 144, 151, 158, 165, 172, 179, 186, 193, 200, 207, 214, 221, 228, 235, 242, 249, 256, 263, 270, 277, 284, 291, 298, 305, 312, 319, 320, 321, 338, 347, 354, 361, 368, 375, 382, 389, 396, 403, 410, 417, 424, 431, 438, 445, 452, 459, 466, 473, 480, 487, 494, 499, 506, 507, 524, 565, 663, 674, 681, 688, 695, 702, 709, 716, 723, 730, 737, 744, 751, 758, 765, 772, 779, 784, 789, 794, 799, 806, 813, 820, 827, 834, 841, 848, 853, 860, 884, 889, 906, 913, 920, 30, 51, 72, 93, 104, 111, 118, 123, 128, 133, 138, 143, 150, 157, 164, 171, 178, 185, 192, 199, 206, 213, 220, 227, 234, 241, 248, 255, 262, 269, 276, 283, 290, 297, 304, 311, 318, 337, 346, 353, 360, 367, 374, 381, 388, 395, 402, 409, 416, 423, 430, 437, 444, 451, 458, 465, 472, 479, 486, 493, 498, 505, 523, 564, 662, 673, 680, 687, 694, 701, 708, 715, 722, 729, 736, 743, 750, 757, 764, 771, 778, 783, 788, 793, 798, 805, 812, 819, 826, 833, 840, 847, 852, 859, 883, 890, 891, 892, 893, 894, 895, 896, 897, 898, 899, 900, 901, 902, 903, 904, 905, 912, 919, 28, 29, 32, 33, 49, 50, 53, 54, 70, 71, 74, 75, 91, 92, 95, 96, 335, 336, 339, 340, 521, 522, 525, 541, 548, 555, 562, 563, 566, 567, 583, 590, 597, 604, 611, 618, 625, 632, 639, 646, 653, 660, 661, 664, 665, 874, 881, 882, 885, 886, 27, 48, 69, 90, 334, 520, 540, 547, 554, 561, 582, 589, 596, 603, 610, 617, 624, 631, 638, 645, 652, 659, 873, 880]
def headK (g : Addr → Option Obj) : Frag := He.frG g adr
def fnA : List He.DefD := fn.take 55
def fnB : List He.DefD := fn.drop 55
def hd1 (g : Addr → Option Obj) : He.AlD := He.obsD [] fnA (headK g)
def hd2 (g : Addr → Option Obj) : He.AlD := He.obsD [] fnB (headK g)
def hd3 (g : Addr → Option Obj) : He.AlD := He.obsD fa [] (headK g)
def hd4 (g : Addr → Option Obj) : Bool := xtra (headK g)
theorem says_parts {K : Frag} (h1 : He.obsD [] fnA K = He.valD fnA) (h2 : He.obsD [] fnB K = He.valD fnB) (h3 : He.obsD fa [] K = He.valD []) : He.SaysD fa fn K := by
  have e : fn = fnA ++ fnB := (List.take_append_drop 55 fn).symm
  have a1 : (fnA.all fun d => d.ok K) = true := (He.ba (show ((([] : List He.Fa).all fun f => f.ok K) && fnA.all fun d => d.ok K) = true from congrArg (fun z : He.AlD => z.1) h1)).2
  have a2 : (fnB.all fun d => d.ok K) = true := (He.ba (show ((([] : List He.Fa).all fun f => f.ok K) && fnB.all fun d => d.ok K) = true from congrArg (fun z : He.AlD => z.1) h2)).2
  have a3 : (fa.all fun f => f.ok K) = true := (He.ba (show ((fa.all fun f => f.ok K) && ([] : List He.DefD).all fun d => d.ok K) = true from congrArg (fun z : He.AlD => z.1) h3)).1
  have b1 : (fnA.map fun d => He.fnW K d.at_) = fnA.map He.DefD.val := congrArg (fun z : He.AlD => z.2) h1
  have b2 : (fnB.map fun d => He.fnW K d.at_) = fnB.map He.DefD.val := congrArg (fun z : He.AlD => z.2) h2
  show (((fa.all fun f => f.ok K) && fn.all fun d => d.ok K), fn.map fun d => He.fnW K d.at_) = (true, fn.map He.DefD.val)
  rw [e, List.all_append, List.map_append, List.map_append, a1, a2, a3, b1, b2]
  rfl
def headO (g : Addr → Option Obj) : He.AlD × He.AlD × He.AlD × Bool := (hd1 g, hd2 g, hd3 g, hd4 g)
def hook : Hook where
  α := He.AlD × He.AlD × He.AlD × Bool
  obs := fun s => headO s.heap.get?
  val := fun _ => (He.valD fnA, He.valD fnB, He.valD [], true)
  says := fun _ h => ∃ K : Frag, K.In h ∧ He.SaysD fa fn K ∧ xtra K = true
  of := fun _ _ e => by
    have e1 := congrArg Prod.fst e
    have e2 := congrArg (fun z => z.2.1) e
    have e3 := congrArg (fun z => z.2.2.1) e
    have e4 := congrArg (fun z => z.2.2.2) e
    exact ⟨_, He.frG_in, says_parts e1 e2 e3, e4⟩
  keeps := fun _ _ _ ⟨K, hK, c⟩ k => ⟨K, Frag.In.keeps hK k, c⟩
def ob (s : SharedT) : He.AlD × He.AlD × He.AlD × Bool := headO (HeadRun.getT s)
theorem ob_eq (s : SharedT) : ob s = hook.obs s.abs := by
  have e : HeadRun.getT s = s.abs.heap.get? := funext (HeadRun.getT_eq s)
  show headO _ = headO _
  rw [e]
/-- what the top's run leaves -/
noncomputable def endS (w : World) (os : OsState) : Option SharedT := HeadRun.endF (HeadRun.stepQ (HeadRun.denQ HeadRun.tabQ) RW0.prog w) 7000 RW0.prog w os
/-- a part of what is looked at behind the top, by a run of its own: three of them, since the kernel keeps what it has met until a theorem's end -/
def PartEq {β : Type} (F : SharedT → β) (v : β) (w : World) : Prop := ∀ os : OsState, (endS w os).map F = some v
noncomputable def p1 (w : World) (s : SharedT) : Bool × He.AlD := (HeadRun.looksF RW0.prog (boot_heap w.params) s.abs, hd1 (HeadRun.getT s))
noncomputable def p2 (s : SharedT) := (HeadRun.seenQ qv names (importedModules RW0.prog.main.body) (fun s => xlAt qv [] s && recOk [] s) s.abs, hd4 (HeadRun.getT s))
def p3 (s : SharedT) : He.AlD × He.AlD := (hd2 (HeadRun.getT s), hd3 (HeadRun.getT s))
abbrev wF (w : World) : World := w.withFollow "special-get-raises" false
abbrev wT (w : World) : World := w.withFollow "special-get-raises" true
theorem run1F (w : World) : PartEq (p1 (wF w)) (true, He.valD fnA) (wF w) := by
  intro os
  kernel_rfl
theorem run2F (w : World) : PartEq p2 (openGood qv names, true) (wF w) := by
  intro os
  kernel_rfl
theorem run3F (w : World) : PartEq p3 (He.valD fnB, He.valD []) (wF w) := by
  intro os
  kernel_rfl
theorem run1T (w : World) : PartEq (p1 (wT w)) (true, He.valD fnA) (wT w) := by
  intro os
  kernel_rfl
theorem run2T (w : World) : PartEq p2 (openGood qv names, true) (wT w) := by
  intro os
  kernel_rfl
theorem run3T (w : World) : PartEq p3 (He.valD fnB, He.valD []) (wT w) := by
  intro os
  kernel_rfl
theorem run_join {w : World} (h1 : PartEq (p1 w) (true, He.valD fnA) w) (h2 : PartEq p2 (openGood qv names, true) w) (h3 : PartEq p3 (He.valD fnB, He.valD []) w) : HeadRun.RunEqS RW0 qv hook ob 7000 names w := by
  intro os
  have a1 := h1 os
  have a2 := h2 os
  have a3 := h3 os
  show (endS w os).map _ = _
  generalize endS w os = z at a1 a2 a3 ⊢
  cases z with
  | none => cases a1
  | some s =>
    rw [Option.map_some] at a1 a2 a3 ⊢
    have b1 := Option.some.inj a1
    have b2 := Option.some.inj a2
    have b3 := Option.some.inj a3
    have c0 : (p1 w s).1 = true := congrArg Prod.fst b1
    have c1 : (p1 w s).2 = He.valD fnA := congrArg Prod.snd b1
    have c2 : (p2 s).1 = openGood qv names := congrArg Prod.fst b2
    have c3 : (p2 s).2 = true := congrArg Prod.snd b2
    have c4 : (p3 s).1 = He.valD fnB := congrArg Prod.fst b3
    have c5 : (p3 s).2 = He.valD [] := congrArg Prod.snd b3
    have e : ob s = (He.valD fnA, He.valD fnB, He.valD [], true) := by
      show ((p1 w s).2, (p3 s).1, (p3 s).2, (p2 s).2) = _
      rw [c1, c3, c4, c5]
    exact congrArg some (Prod.ext c0 (Prod.ext c2 e))
theorem head_run (w : World) : HeadRun.RunEqS RW0 qv hook ob 7000 names w := byRow2 "special-get-raises" (P := fun w => HeadRun.RunEqS RW0 qv hook ob 7000 names w) (fun w => run_join (run1F w) (run2F w) (run3F w)) (fun w => run_join (run1T w) (run2T w) (run3T w)) w
theorem said1 : sreFenced RW0.prog.main = true := by decide +kernel
theorem said2 : ((moduleNames RW0.prog.main.body).isEmpty || lookedIntoSs (moduleNames RW0.prog.main.body) RW0.prog.main.body) = true := by decide +kernel
theorem said3 : namesResolve RW0.prog = true := by decide +kernel
theorem said4 : (RW0.prog.boundNames.all fun n => !worldNames.contains n) = true := by decide +kernel
theorem said5 : (noRoadLSs { strict := !(importedModules RW0.prog.main.body).all cThrough.contains, foot := none, bare := (["vars", "dir", "locals"] : List Str).filter (readsOut RW0.prog RW0.prog.main.body) } RW0.prog.main.body) = true := by decide +kernel
theorem said6 : (namesMeet RW0.prog RW0.prog.main.body fun _ n => attrL n) = true := by decide +kernel
theorem said7 : RW0.prog.boundNames.contains RW0.name = true := by decide +kernel
theorem said8 : (!startupNames.contains RW0.name) = true := by decide +kernel
theorem said9 : specDef RW0.prog RW0.name RW0.args.length = true := by decide +kernel
theorem and_t {a b : Bool} (h : a = true) (k : b = true) : (a && b) = true := by rw [h, k]; rfl
theorem said_open : looksOpen RW0.prog = true := and_t (and_t (and_t (and_t (and_t said1 said2) said3) said4) said5) said6
theorem head_said : RW0.wellSaid = true := and_t (and_t (and_t (and_t (and_t said_open said7) said8) said9) (by decide +kernel)) (by decide +kernel)
theorem head_bare : RW0.prog.bare := ⟨rfl, rfl, rfl, rfl, rfl, by decide +kernel⟩
end
end CB
end
section
namespace CB
/-! ### fractions -/
theorem frac_num (a b : Int) (hb : 0 < b) : a / ((Int.gcd a b : Nat) : Int) = ((a : Rat) / (b : Rat)).num := by
  rw [← Rat.divInt_eq_div, Rat.num_divInt, Int.sign_eq_one_of_pos hb, Int.one_mul, Int.gcd_comm]
theorem frac_den (a b : Int) (hb : 0 < b) : b / ((Int.gcd a b : Nat) : Int) = (((a : Rat) / (b : Rat)).den : Int) := by
  rw [← Rat.divInt_eq_div, Rat.den_divInt, if_neg (by omega), Int.gcd_comm a b, Int.natCast_ediv]
  congr 1
  omega
theorem gcd_pos {a b : Int} (hb : 0 < b) : 0 < Int.gcd a b := by
  refine Nat.pos_of_ne_zero fun h => ?_
  have := (Int.gcd_eq_zero_iff.mp h).2
  omega
theorem gcd_le {a b : Int} (hb : 0 < b) : Int.gcd a b ≤ b.natAbs := Nat.le_of_dvd (by omega) (Int.gcd_dvd_natAbs_right a b)
theorem num_le (q : Rat) {a b : Int} (hb : 0 < b) (h : q = (a : Rat) / (b : Rat)) : q.num.natAbs ≤ a.natAbs := by
  rw [h, ← frac_num a b hb]
  exact Int.natAbs_ediv_le_natAbs _ _
theorem den_le (q : Rat) {a b : Int} (hb : 0 < b) (h : q = (a : Rat) / (b : Rat)) : q.den ≤ b.natAbs := by
  have e : (q.den : Int) = b / ((Int.gcd a b : Nat) : Int) := by rw [h, ← frac_den a b hb]
  have := Int.natAbs_ediv_le_natAbs b ((Int.gcd a b : Nat) : Int)
  omega
theorem self_div (q : Rat) : (q.num : Rat) / ((q.den : Int) : Rat) = q := by
  rw [← Rat.divInt_eq_div]
  exact Rat.num_divInt_den q
/-- the greatest common divisor, step by step -/
theorem gcd_step (g s : Nat) : Nat.gcd s (g % s) = Nat.gcd g s := by
  rw [Nat.gcd_comm s, ← Nat.gcd_rec, Nat.gcd_comm]
theorem fmod_nat (g s : Nat) : Int.fmod (g : Int) (s : Int) = ((g % s : Nat) : Int) := by
  rw [Int.fmod_eq_emod_of_nonneg _ (Int.natCast_nonneg s), Int.natCast_emod]
/-- to the nearest whole number -/
theorem floor_div (a b : Int) (hb : 0 < b) : ((a : Rat) / (b : Rat)).floor = a / b := by
  have hb' : (0 : Rat) < (b : Rat) := by exact_mod_cast hb
  have key : ∀ x : Int, x ≤ ((a : Rat) / (b : Rat)).floor ↔ x ≤ a / b := fun x => by
    rw [Rat.le_floor_iff, Int.le_ediv_iff_mul_le hb]
    constructor
    · intro h
      have h2 : (x : Rat) * (b : Rat) ≤ (a : Rat) / (b : Rat) * (b : Rat) := Rat.mul_le_mul_of_nonneg_right h (Rat.le_of_lt hb')
      rw [Rat.div_mul_cancel (by grind)] at h2
      exact_mod_cast h2
    · intro h
      have h2 : (x : Rat) * (b : Rat) ≤ (a : Rat) := by exact_mod_cast h
      have h3 : (x : Rat) * (b : Rat) / (b : Rat) ≤ (a : Rat) / (b : Rat) := by
        rw [Rat.div_def, Rat.div_def]
        exact Rat.mul_le_mul_of_nonneg_right h2 (Rat.le_of_lt (Rat.inv_pos.mpr hb'))
      have h4 : (x : Rat) * (b : Rat) / (b : Rat) = (x : Rat) := by grind
      rw [h4] at h3
      exact h3
  exact Int.le_antisymm ((key _).mp (Int.le_refl _)) ((key _).mpr (Int.le_refl _))
theorem nearest_is (q : Rat) : (2 * q.num + (q.den : Int)) / (2 * (q.den : Int)) = (q + 1 / 2).floor := by
  have hd : (0 : Int) < 2 * (q.den : Int) := by have := q.den_pos; omega
  rw [← floor_div _ _ hd]
  congr 1
  have hq := self_div q
  have hz : ((q.den : Int) : Rat) ≠ 0 := by
    have := q.den_nz
    exact_mod_cast this
  have e1 : ((2 * q.num + (q.den : Int) : Int) : Rat) = 2 * (q.num : Rat) + ((q.den : Int) : Rat) := by push_cast; rfl
  have e2 : ((2 * (q.den : Int) : Int) : Rat) = 2 * ((q.den : Int) : Rat) := by push_cast; rfl
  rw [e1, e2]
  generalize ((q.den : Int) : Rat) = d at *
  grind
/-- a fraction turned, where it is below 1 -/
theorem turn_num (q : Rat) (h : 0 < q.num) : (1 / q).num = (q.den : Int) ∧ ((1 / q).den : Int) = q.num := by
  have e : (1 : Rat) / q = ((q.den : Int) : Rat) / (q.num : Rat) := by
    have hq := self_div q
    have hz : ((q.den : Int) : Rat) ≠ 0 := by
      have := q.den_nz
      exact_mod_cast this
    have hn : (q.num : Rat) ≠ 0 := by
      have : q.num ≠ 0 := by omega
      exact_mod_cast this
    generalize ((q.den : Int) : Rat) = d at *
    generalize (q.num : Rat) = n at *
    grind
  have g : Int.gcd (q.den : Int) q.num = 1 := by
    have := q.reduced
    unfold Nat.Coprime at this
    rw [Int.gcd_comm]
    exact this
  constructor
  · rw [e, ← frac_num _ _ h, g]
    simp
  · rw [e, ← frac_den _ _ h, g]
    simp
theorem lt_one (q : Rat) : q < 1 ↔ q.num < (q.den : Int) := by
  rw [Rat.lt_iff]
  simp
end CB
end
section
namespace CB
open LsText

/-! ### rows of bytes -/
/-- the first place from s on whose byte fails q, or the end -/
def endOf (q : UInt8 → Bool) (t : Bytes) (s : Nat) : Nat := s + ((t.drop s).takeWhile q).length
theorem takeWhile_len_le {α : Type} (q : α → Bool) : ∀ l : List α, (l.takeWhile q).length ≤ l.length
  | [] => Nat.le_refl _
  | a :: l => by
    rw [List.takeWhile_cons]
    split
    · exact Nat.succ_le_succ (takeWhile_len_le q l)
    · exact Nat.zero_le _
theorem endOf_le {q : UInt8 → Bool} {t : Bytes} {s : Nat} (h : s ≤ t.length) : endOf q t s ≤ t.length := by
  have a := takeWhile_len_le q (t.drop s)
  rw [List.length_drop] at a
  unfold endOf
  omega
theorem endOf_ge {q : UInt8 → Bool} {t : Bytes} {s : Nat} : s ≤ endOf q t s := Nat.le_add_right _ _
theorem drop_cons {α : Type} {t : List α} {s : Nat} {c : α} (h : t[s]? = some c) : t.drop s = c :: t.drop (s + 1) := by
  obtain ⟨hs, e⟩ := List.getElem?_eq_some_iff.mp h
  rw [List.drop_eq_getElem_cons hs, e]
theorem endOf_end {q : UInt8 → Bool} {t : Bytes} : endOf q t t.length = t.length := by
  unfold endOf
  rw [List.drop_length]
  rfl
theorem endOf_no {q : UInt8 → Bool} {t : Bytes} {s : Nat} {c : UInt8} (h : t[s]? = some c) (hc : q c = false) : endOf q t s = s := by
  unfold endOf
  rw [drop_cons h, List.takeWhile_cons, hc]
  rfl
theorem endOf_yes {q : UInt8 → Bool} {t : Bytes} {s : Nat} {c : UInt8} (h : t[s]? = some c) (hc : q c = true) : endOf q t s = endOf q t (s + 1) := by
  unfold endOf
  rw [drop_cons h, List.takeWhile_cons, if_pos hc, List.length_cons]
  omega
/-- a loop that has come to i without a stop -/
theorem endOf_step {q : UInt8 → Bool} {t : Bytes} {s i : Nat} {c : UInt8} (e : endOf q t s = endOf q t i) (h : t[i]? = some c) (hc : q c = true) : endOf q t s = endOf q t (i + 1) := e.trans (endOf_yes h hc)

/-! ### blanks and remarks -/
def skip (t : Bytes) (p : Nat) : Nat := p + gap false (t.drop p)
theorem skip_end {t : Bytes} : skip t t.length = t.length := by
  unfold skip
  rw [List.drop_length]
  rfl
theorem skip_stop {t : Bytes} {p : Nat} {c : UInt8} (h : t[p]? = some c) (h1 : c ≠ 37) (h2 : isBlank c = false) : skip t p = p := by
  unfold skip
  rw [drop_cons h]
  show p + (if c = 37 then _ else if isBlank c = true then _ else 0) = p
  rw [if_neg h1, if_neg (by rw [h2]; decide)]
  rfl
theorem skip_blank {t : Bytes} {p : Nat} {c : UInt8} (h : t[p]? = some c) (h1 : c ≠ 37) (h2 : isBlank c = true) : skip t p = skip t (p + 1) := by
  unfold skip
  rw [drop_cons h]
  show p + (if c = 37 then _ else if isBlank c = true then (1 + gap false (t.drop (p + 1))) else 0) = _
  rw [if_neg h1, if_pos h2]
  omega
def notLf (c : UInt8) : Bool := c != 10
theorem gap_true : ∀ l : Bytes, gap true l = (l.takeWhile notLf).length + gap false (l.drop (l.takeWhile notLf).length)
  | [] => rfl
  | c :: r => by
    show (if c = 10 then 1 + gap false r else 1 + gap true r) = _
    by_cases e : c = 10
    · subst e
      have n : notLf 10 = false := rfl
      rw [if_pos rfl, List.takeWhile_cons, if_neg (by rw [n]; decide)]
      show 1 + gap false r = 0 + gap false (10 :: r)
      have z : gap false (10 :: r) = if (10 : UInt8) = 37 then 1 + gap true r else if isBlank 10 = true then 1 + gap false r else 0 := rfl
      rw [z, if_neg (by decide), if_pos (by decide)]
      omega
    · have n : notLf c = true := by
        unfold notLf
        exact bne_iff_ne.mpr e
      rw [if_neg e, List.takeWhile_cons, if_pos n, List.length_cons, List.drop_succ_cons, gap_true r]
      omega
theorem skip_rem {t : Bytes} {p : Nat} (h : t[p]? = some 37) : skip t p = skip t (endOf notLf t p) := by
  unfold skip
  rw [endOf_yes h (by decide)]
  unfold endOf
  rw [drop_cons h]
  show p + (1 + gap true (t.drop (p + 1))) = _
  rw [gap_true, List.drop_drop]
  omega
theorem gap_le : ∀ (l : Bytes) (b : Bool), gap b l ≤ l.length
  | [], b => by cases b <;> exact Nat.le_refl _
  | c :: r, true => by
    show (if c = 10 then 1 + gap false r else 1 + gap true r) ≤ r.length + 1
    have a := gap_le r true
    have b := gap_le r false
    split <;> omega
  | c :: r, false => by
    show (if c = 37 then 1 + gap true r else if isBlank c = true then 1 + gap false r else 0) ≤ r.length + 1
    have a := gap_le r true
    have b := gap_le r false
    split
    · omega
    · split <;> omega
theorem skip_le {t : Bytes} {p : Nat} (h : p ≤ t.length) : skip t p ≤ t.length := by
  have a := gap_le (t.drop p) false
  rw [List.length_drop] at a
  unfold skip
  omega
theorem skip_ge {t : Bytes} {p : Nat} : p ≤ skip t p := Nat.le_add_right _ _

/-! ### a token as the program tells it -/
structure Tk where
  kind : Nat
  row : Bytes
  at_ : Nat
  behind : Nat
def noTk (a : Nat) : Tk := ⟨0, [], a, a⟩
def cut (t : Bytes) (a b : Nat) : Bytes := (t.drop a).take (b - a)
def wordAt (t : Bytes) (a : Nat) : Tk := if 31 < endOf isPart t a - a then noTk a else ⟨2, cut t a (endOf isPart t a), a, endOf isPart t a⟩
def partAt (t : Bytes) (a : Nat) : Bool := match t[a]? with
  | some c => isPart c
  | none => false
def numberAt (t : Bytes) (a : Nat) : Tk := if 9 < endOf isDigit t a - a then noTk a else if partAt t (endOf isDigit t a) = true then noTk a else ⟨3, cut t a (endOf isDigit t a), a, endOf isDigit t a⟩
def textAt (t : Bytes) (a : Nat) : Tk := if t[endOf isShown t (a + 1)]? = some 34 then (if 40 < endOf isShown t (a + 1) - a - 1 then noTk a else ⟨4, cut t (a + 1) (endOf isShown t (a + 1)), a, endOf isShown t (a + 1) + 1⟩) else noTk a
def tkAt (t : Bytes) (a : Nat) : Tk := match t[a]? with
  | none => ⟨1, [], a, a⟩
  | some c => if isLetter c = true then wordAt t a else if isDigit c = true then numberAt t a else if c = 34 then textAt t a else if isSign c = true then ⟨5, [c], a, a + 1⟩ else noTk a
def tkFrom (t : Bytes) (p : Nat) : Tk := tkAt t (skip t p)

/-- the token that a Tk tells -/
def TkIs (k : Tk) (x : Tok) : Prop := match x with
  | .word b => k.kind = 2 ∧ k.row = b
  | .num n => k.kind = 3 ∧ numberOf k.row = n ∧ k.row.length ≤ 9 ∧ (∀ c ∈ k.row, isDigit c = true)
  | .text b => k.kind = 4 ∧ k.row = b
  | .sign c => k.kind = 5 ∧ k.row = [c]
  | .none_ => k.kind = 0
  | .over => k.kind = 1
def regular : Tok → Bool
  | .none_ => false
  | .over => false
  | _ => true

theorem take_takeWhile {α : Type} (q : α → Bool) : ∀ l : List α, l.take (l.takeWhile q).length = l.takeWhile q
  | [] => rfl
  | a :: l => by
    rw [List.takeWhile_cons]
    split
    · rw [List.length_cons, List.take_succ_cons, take_takeWhile q l]
    · rfl
theorem cut_end {q : UInt8 → Bool} {t : Bytes} {a : Nat} : cut t a (endOf q t a) = (t.drop a).takeWhile q := by
  unfold cut endOf
  rw [Nat.add_sub_cancel_left, take_takeWhile]
theorem end_sub {q : UInt8 → Bool} {t : Bytes} {a : Nat} : endOf q t a - a = ((t.drop a).takeWhile q).length := by
  unfold endOf
  exact Nat.add_sub_cancel_left _ _
theorem letter_part {c : UInt8} (h : isLetter c = true) : isPart c = true := by
  unfold isPart
  rw [h]
  rfl
theorem tw_digits {l : Bytes} : ∀ c ∈ l.takeWhile isDigit, isDigit c = true := fun c hc => by
  induction l with
  | nil => exact absurd hc (by simp)
  | cons a l ih =>
    rw [List.takeWhile_cons] at hc
    split at hc
    · rcases List.mem_cons.mp hc with rfl | h
      · assumption
      · exact ih h
    · exact absurd hc (by simp)
/-- k tells the token x (its length beside it) that stands at a -/
def Tells (t : Bytes) (a : Nat) (k : Tk) (x : Tok × Nat) : Prop := TkIs k x.1 ∧ k.at_ = a ∧ (regular x.1 = true → k.behind = a + x.2 ∧ 0 < x.2 ∧ k.behind ≤ t.length)
theorem tells_no (t : Bytes) (a n : Nat) : Tells t a (noTk a) (.none_, n) := ⟨rfl, rfl, fun q => Bool.noConfusion q⟩
theorem first_cons (c : UInt8) (r : Bytes) : first (c :: r) = if isLetter c = true then (if (c :: r.takeWhile isPart).length ≤ 31 then (Tok.word (c :: r.takeWhile isPart), (c :: r.takeWhile isPart).length) else (.none_, (c :: r.takeWhile isPart).length))
    else if isDigit c = true then (if 9 < (c :: r.takeWhile isDigit).length ∨ ((r.drop ((c :: r.takeWhile isDigit).length - 1)).head?.any isPart) = true then (.none_, (c :: r.takeWhile isDigit).length) else (.num (numberOf (c :: r.takeWhile isDigit)), (c :: r.takeWhile isDigit).length))
    else if c = 34 then (if (r.takeWhile isShown).length ≤ 40 ∧ (r.drop (r.takeWhile isShown).length).head? = some 34 then (.text (r.takeWhile isShown), (r.takeWhile isShown).length + 2) else (.none_, 1))
    else if isSign c = true then (.sign c, 1) else (.none_, 1) := rfl
/-- what stands at a place: the specification's first token there -/
theorem tkAt_first (t : Bytes) (a : Nat) (ha : a ≤ t.length) : Tells t a (tkAt t a) (first (t.drop a)) := by
  unfold tkAt
  cases h : t[a]? with
  | none =>
    have e : t.drop a = [] := List.drop_eq_nil_iff.mpr (List.getElem?_eq_none_iff.mp h)
    rw [e]
    exact ⟨rfl, rfl, fun q => Bool.noConfusion q⟩
  | some c =>
    have hd := drop_cons h
    have ht : a < t.length := (List.getElem?_eq_some_iff.mp h).1
    show Tells t a (if isLetter c = true then wordAt t a else if isDigit c = true then numberAt t a else if c = 34 then textAt t a else if isSign c = true then ⟨5, [c], a, a + 1⟩ else noTk a) (first (t.drop a))
    have hf : first (t.drop a) = first (c :: t.drop (a + 1)) := congrArg first hd
    rw [hf, first_cons]
    by_cases hl : isLetter c = true
    · rw [if_pos hl, if_pos hl]
      have e1 : c :: (t.drop (a + 1)).takeWhile isPart = (t.drop a).takeWhile isPart := by rw [hd, List.takeWhile_cons, if_pos (letter_part hl)]
      have p1 : 0 < ((t.drop a).takeWhile isPart).length := by rw [← e1]; exact Nat.succ_pos _
      rw [e1]
      unfold wordAt
      rw [end_sub, cut_end]
      by_cases hw : 31 < ((t.drop a).takeWhile isPart).length
      · rw [if_pos hw, if_neg (by omega)]
        exact tells_no _ _ _
      · rw [if_neg hw, if_pos (by omega)]
        exact ⟨⟨rfl, rfl⟩, rfl, fun _ => ⟨rfl, p1, endOf_le ha⟩⟩
    · rw [if_neg hl, if_neg hl]
      by_cases hg : isDigit c = true
      · rw [if_pos hg, if_pos hg]
        have e1 : c :: (t.drop (a + 1)).takeWhile isDigit = (t.drop a).takeWhile isDigit := by rw [hd, List.takeWhile_cons, if_pos hg]
        have p1 : 0 < ((t.drop a).takeWhile isDigit).length := by rw [← e1]; exact Nat.succ_pos _
        rw [e1]
        unfold numberAt
        rw [end_sub, cut_end]
        have e2 : (((t.drop (a + 1)).drop (((t.drop a).takeWhile isDigit).length - 1)).head?.any isPart) = partAt t (endOf isDigit t a) := by
          rw [List.drop_drop, List.head?_drop]
          have : a + 1 + (((t.drop a).takeWhile isDigit).length - 1) = endOf isDigit t a := by unfold endOf; omega
          rw [this]
          unfold partAt
          cases t[endOf isDigit t a]? <;> rfl
        rw [e2]
        by_cases hw : 9 < ((t.drop a).takeWhile isDigit).length
        · rw [if_pos hw, if_pos (Or.inl hw)]
          exact tells_no _ _ _
        · rw [if_neg hw]
          by_cases hp : partAt t (endOf isDigit t a) = true
          · rw [if_pos hp, if_pos (Or.inr hp)]
            exact tells_no _ _ _
          · rw [if_neg hp, if_neg (by rintro (q | q); exact hw q; exact hp q)]
            exact ⟨⟨rfl, rfl, by show ((t.drop a).takeWhile isDigit).length ≤ 9; omega, tw_digits⟩, rfl, fun _ => ⟨rfl, p1, endOf_le ha⟩⟩
      · rw [if_neg hg, if_neg hg]
        by_cases hq : c = 34
        · rw [if_pos hq, if_pos hq]
          unfold textAt
          have e2 : ((t.drop (a + 1)).drop ((t.drop (a + 1)).takeWhile isShown).length).head? = t[endOf isShown t (a + 1)]? := by
            rw [List.drop_drop, List.head?_drop]
            rfl
          have e3 : endOf isShown t (a + 1) - a - 1 = ((t.drop (a + 1)).takeWhile isShown).length := by unfold endOf; omega
          rw [e2, e3, cut_end]
          by_cases hz : t[endOf isShown t (a + 1)]? = some 34
          · rw [if_pos hz]
            by_cases hw : 40 < ((t.drop (a + 1)).takeWhile isShown).length
            · rw [if_pos hw, if_neg (by rintro ⟨q, _⟩; omega)]
              exact tells_no _ _ _
            · rw [if_neg hw, if_pos ⟨by omega, hz⟩]
              have := (List.getElem?_eq_some_iff.mp hz).1
              exact ⟨⟨rfl, rfl⟩, rfl, fun _ => ⟨by show endOf isShown t (a + 1) + 1 = a + (_ + 2); unfold endOf; omega, Nat.succ_pos _, this⟩⟩
          · rw [if_neg hz, if_neg (by rintro ⟨_, q⟩; exact hz q)]
            exact tells_no _ _ _
        · rw [if_neg hq, if_neg hq]
          by_cases hs : isSign c = true
          · rw [if_pos hs, if_pos hs]
            exact ⟨⟨rfl, rfl⟩, rfl, fun _ => ⟨rfl, Nat.one_pos, ht⟩⟩
          · rw [if_neg hs, if_neg hs]
            exact tells_no _ _ _

/-! ### the tokens from a place on -/
def toks (t : Bytes) (p : Nat) : List Token := tokensFrom (t.length - p + 1) p (t.drop p)
theorem tokens_toks (t : Bytes) : tokens t = toks t 0 := rfl
theorem first_len : ∀ (b : Bytes), regular (first b).1 = true → 0 < (first b).2 := fun b h => by
  have := tkAt_first b 0 (Nat.zero_le _)
  rw [List.drop_zero] at this
  exact (this.2.2 h).2.1
theorem from_over {n p : Nat} {b : Bytes} (h : (first (b.drop (gap false b))).1 = .over) : tokensFrom (n + 1) p b = [⟨p + gap false b, .over⟩] := by
  show (match (first (b.drop (gap false b))).1 with
    | .over => ([⟨p + gap false b, .over⟩] : List Token)
    | .none_ => [⟨p + gap false b, .none_⟩]
    | t => (⟨p + gap false b, t⟩ : Token) :: tokensFrom n (p + gap false b + (first (b.drop (gap false b))).2) ((b.drop (gap false b)).drop (first (b.drop (gap false b))).2)) = _
  rw [h]
theorem from_none {n p : Nat} {b : Bytes} (h : (first (b.drop (gap false b))).1 = .none_) : tokensFrom (n + 1) p b = [⟨p + gap false b, .none_⟩] := by
  show (match (first (b.drop (gap false b))).1 with
    | .over => ([⟨p + gap false b, .over⟩] : List Token)
    | .none_ => [⟨p + gap false b, .none_⟩]
    | t => (⟨p + gap false b, t⟩ : Token) :: tokensFrom n (p + gap false b + (first (b.drop (gap false b))).2) ((b.drop (gap false b)).drop (first (b.drop (gap false b))).2)) = _
  rw [h]
theorem from_reg {n p : Nat} {b : Bytes} (h : regular (first (b.drop (gap false b))).1 = true) : tokensFrom (n + 1) p b = ⟨p + gap false b, (first (b.drop (gap false b))).1⟩ :: tokensFrom n (p + gap false b + (first (b.drop (gap false b))).2) ((b.drop (gap false b)).drop (first (b.drop (gap false b))).2) := by
  show (match (first (b.drop (gap false b))).1 with
    | .over => ([⟨p + gap false b, .over⟩] : List Token)
    | .none_ => [⟨p + gap false b, .none_⟩]
    | t => (⟨p + gap false b, t⟩ : Token) :: tokensFrom n (p + gap false b + (first (b.drop (gap false b))).2) ((b.drop (gap false b)).drop (first (b.drop (gap false b))).2)) = _
  cases e : (first (b.drop (gap false b))).1 with
  | over => rw [e] at h; exact absurd h (by decide)
  | none_ => rw [e] at h; exact absurd h (by decide)
  | word _ => rfl
  | num _ => rfl
  | text _ => rfl
  | sign _ => rfl
theorem reg_cases (x : Tok) : x = .over ∨ x = .none_ ∨ regular x = true := by
  cases x with
  | over => exact .inl rfl
  | none_ => exact .inr (.inl rfl)
  | word _ => exact .inr (.inr rfl)
  | num _ => exact .inr (.inr rfl)
  | text _ => exact .inr (.inr rfl)
  | sign _ => exact .inr (.inr rfl)
theorem from_more : ∀ (n m p : Nat) (b : Bytes), b.length < n → b.length < m → tokensFrom n p b = tokensFrom m p b
  | 0, _, _, _, h, _ => absurd h (Nat.not_lt_zero _)
  | _ + 1, 0, _, _, _, h => absurd h (Nat.not_lt_zero _)
  | n + 1, m + 1, p, b, hn, hm => by
    rcases reg_cases (first (b.drop (gap false b))).1 with h | h | h
    · rw [from_over h, from_over h]
    · rw [from_none h, from_none h]
    · have hp := first_len (b.drop (gap false b)) h
      have hl : 0 < b.length := by
        cases b with
        | nil => exact absurd h (by decide)
        | cons _ _ => exact Nat.succ_pos _
      have l : ((b.drop (gap false b)).drop (first (b.drop (gap false b))).2).length < b.length := by
        rw [List.length_drop, List.length_drop]; omega
      rw [from_reg h, from_reg h, from_more n m _ _ (by omega) (by omega)]

open LsChain (front)
/-- the front token, and what is behind it -/
theorem toks_front (t : Bytes) (p : Nat) (hp : p ≤ t.length) : TkIs (tkFrom t p) (front (toks t p)).tok ∧ (front (toks t p)).at_ = (tkFrom t p).at_ ∧
    (regular (front (toks t p)).tok = true → toks t p = front (toks t p) :: toks t (tkFrom t p).behind ∧ p < (tkFrom t p).behind ∧ (tkFrom t p).behind ≤ t.length) := by
  obtain ⟨F1, F2, F3⟩ : Tells t (skip t p) (tkFrom t p) (first (t.drop (skip t p))) := tkAt_first t (skip t p) (skip_le hp)
  have e : (t.drop p).drop (gap false (t.drop p)) = t.drop (skip t p) := by rw [List.drop_drop]; rfl
  have g : p ≤ skip t p := skip_ge
  unfold toks
  rcases reg_cases (first (t.drop (skip t p))).1 with h | h | h
  · rw [from_over (by rw [e]; exact h)]
    rw [h] at F1
    exact ⟨F1, F2.symm, fun q => Bool.noConfusion q⟩
  · rw [from_none (by rw [e]; exact h)]
    rw [h] at F1
    exact ⟨F1, F2.symm, fun q => Bool.noConfusion q⟩
  · rw [from_reg (by rw [e]; exact h), e]
    obtain ⟨b1, b2, b3⟩ := F3 h
    refine ⟨F1, F2.symm, fun _ => ⟨?_, by omega, b3⟩⟩
    have s1 : p + gap false (t.drop p) = skip t p := rfl
    rw [s1, List.drop_drop, ← b1]
    have l1 : (t.drop (tkFrom t p).behind).length = t.length - (tkFrom t p).behind := List.length_drop
    show _ :: tokensFrom (t.length - p) (tkFrom t p).behind (t.drop (tkFrom t p).behind) = _ :: tokensFrom (t.length - (tkFrom t p).behind + 1) (tkFrom t p).behind (t.drop (tkFrom t p).behind)
    rw [from_more (t.length - p) (t.length - (tkFrom t p).behind + 1) _ _ (by omega) (by omega)]
    rfl
end CB
end
section
namespace CB
open LsText LsChain

/-! ### where stations stand: both ways of placing come to the same -/
abbrev Sets := List (Bytes × Set_)
/-- stands at p, told by the sets alone -/
inductive Stand (S : Sets) : Bytes → Point → Prop where
  | known {n : Bytes} {x y : Nat} (h : (n, Set_.known x y) ∈ S) : Stand S n ((x : Rat), (y : Rat))
  | on {n a b : Bytes} {m c : Nat} {p q : Point} (h : (n, Set_.on a b m c) ∈ S) (ha : Stand S a p) (hb : Stand S b q) : Stand S n (along p q m (c : Int) 0)

theorem placeIn_nil (n : Bytes) : placeIn [] n = none := rfl
theorem placeIn_cons (x : Bytes × Point) (T : Places) (n : Bytes) : placeIn (x :: T) n = if x.1 = n then some x.2 else placeIn T n := by
  unfold placeIn
  rw [List.find?_cons]
  by_cases h : x.1 = n
  · rw [if_pos h, show (x.1 == n) = true from beq_iff_eq.mpr h]
    rfl
  · rw [if_neg h, show (x.1 == n) = false from beq_eq_false_iff_ne.mpr h]
theorem placeIn_snoc : ∀ (T : Places) (a : Bytes) (p : Point) (n : Bytes), placeIn T a = none → placeIn (T ++ [(a, p)]) n = if n = a then some p else placeIn T n
  | [], a, p, n, _ => by
    rw [List.nil_append, placeIn_cons]
    by_cases h : n = a
    · rw [if_pos h, if_pos h.symm]
    · rw [if_neg h, if_neg (fun e => h e.symm)]
  | x :: T, a, p, n, h => by
    rw [placeIn_cons] at h
    rw [List.cons_append, placeIn_cons, placeIn_cons]
    by_cases hx : x.1 = a
    · rw [if_pos hx] at h; cases h
    · rw [if_neg hx] at h
      rw [placeIn_snoc T a p n h]
      by_cases e : x.1 = n
      · rw [if_pos e, if_pos e, if_neg (fun z => hx (e.trans z))]
      · rw [if_neg e, if_neg e]

/-- what a placing leaves -/
theorem placed_cases (T : Places) (s : Bytes × Set_) : placed T s = T ∨ (placeIn T s.1 = none ∧ ∃ p, placed T s = T ++ [(s.1, p)] ∧
    ((∃ x y, s.2 = .known x y ∧ p = ((x : Rat), (y : Rat))) ∨ ∃ a b m c pa pb, s.2 = .on a b m c ∧ placeIn T a = some pa ∧ placeIn T b = some pb ∧ p = along pa pb m (c : Int) 0)) := by
  unfold placed
  by_cases h : (placeIn T s.1).isSome = true
  · rw [if_pos h]; exact .inl rfl
  · rw [if_neg h]
    have hn : placeIn T s.1 = none := by
      cases e : placeIn T s.1 with
      | none => rfl
      | some _ => rw [e] at h; exact absurd rfl h
    obtain ⟨n, u⟩ := s
    cases u with
    | known x y => exact .inr ⟨hn, _, rfl, .inl ⟨x, y, rfl, rfl⟩⟩
    | on a b m c =>
      cases ea : placeIn T a with
      | none => left; simp only [ea]
      | some pa =>
        cases eb : placeIn T b with
        | none => left; simp only [ea, eb]
        | some pb => exact .inr ⟨hn, _, by simp only [ea, eb], .inr ⟨a, b, m, c, pa, pb, rfl, ea, eb, rfl⟩⟩
/-- all that T places stands there; T's names are set ones, each once -/
structure Sound (S : Sets) (T : Places) : Prop where
  ok : ∀ n p, placeIn T n = some p → Stand S n p
  nd : (T.map (·.1)).Nodup
  sub : ∀ n ∈ T.map (·.1), n ∈ S.map (·.1)
theorem Sound.nil (S : Sets) : Sound S [] where
  ok := fun n p h => by
    rw [placeIn_nil] at h
    exact nomatch h
  nd := List.nodup_nil
  sub := fun _ h => absurd h (by simp)
theorem placeIn_none : ∀ {T : Places} {n : Bytes}, placeIn T n = none → n ∉ T.map (·.1)
  | [], _, _ => by simp
  | x :: T, n, h => by
    rw [placeIn_cons] at h
    by_cases e : x.1 = n
    · rw [if_pos e] at h; cases h
    · rw [if_neg e] at h
      rw [List.map_cons, List.mem_cons]
      rintro (z | z)
      · exact e z.symm
      · exact placeIn_none h z
theorem placeIn_some : ∀ {T : Places} {n : Bytes}, n ∈ T.map (·.1) → ∃ p, placeIn T n = some p
  | [], _, h => absurd h (by simp)
  | x :: T, n, h => by
    rw [placeIn_cons]
    by_cases e : x.1 = n
    · rw [if_pos e]; exact ⟨_, rfl⟩
    · rw [if_neg e]
      rw [List.map_cons, List.mem_cons] at h
      rcases h with z | z
      · exact absurd z.symm e
      · exact placeIn_some z
theorem placeIn_mem : ∀ {T : Places} {n : Bytes} {p : Point}, placeIn T n = some p → (n, p) ∈ T
  | [], _, _, h => by rw [placeIn_nil] at h; cases h
  | x :: T, n, p, h => by
    rw [placeIn_cons] at h
    by_cases e : x.1 = n
    · rw [if_pos e] at h
      obtain ⟨a, b⟩ := x
      cases h
      cases e
      exact List.mem_cons_self
    · rw [if_neg e] at h
      exact List.mem_cons_of_mem _ (placeIn_mem h)
theorem Sound.snoc {S : Sets} {T : Places} {n : Bytes} {p : Point} (h : Sound S T) (hn : placeIn T n = none) (hp : Stand S n p) (hs : n ∈ S.map (·.1)) : Sound S (T ++ [(n, p)]) where
  ok := fun k q e => by
    rw [placeIn_snoc T n p k hn] at e
    by_cases z : k = n
    · rw [if_pos z] at e; cases e; rw [z]; exact hp
    · rw [if_neg z] at e; exact h.ok k q e
  nd := by
    rw [List.map_append]
    refine List.nodup_append.mpr ⟨h.nd, by simp, ?_⟩
    intro a ha b hb
    have : b = n := by simpa using hb
    subst this
    intro z
    subst z
    exact placeIn_none hn ha
  sub := fun k hk => by
    rw [List.map_append, List.mem_append] at hk
    rcases hk with hk | hk
    · exact h.sub k hk
    · have : k = n := by simpa using hk
      rw [this]; exact hs
theorem mem_names {S : Sets} {s : Bytes × Set_} (h : s ∈ S) : s.1 ∈ S.map (·.1) := List.mem_map_of_mem h
theorem Sound.placed {S : Sets} {T : Places} (h : Sound S T) {s : Bytes × Set_} (hs : s ∈ S) : Sound S (placed T s) := by
  rcases placed_cases T s with e | ⟨hn, p, e, hp⟩
  · rw [e]; exact h
  · rw [e]
    refine h.snoc hn ?_ (mem_names hs)
    obtain ⟨n, u⟩ := s
    rcases hp with ⟨x, y, eu, rfl⟩ | ⟨a, b, m, c, pa, pb, eu, ea, eb, rfl⟩
    · cases eu; exact .known hs
    · cases eu; exact .on hs (h.ok _ _ ea) (h.ok _ _ eb)
theorem Sound.fold {S : Sets} : ∀ {l : Sets} {T : Places}, Sound S T → (∀ s ∈ l, s ∈ S) → Sound S (l.foldl LsChain.placed T)
  | [], _, h, _ => h
  | s :: l, T, h, hl => Sound.fold (l := l) (h.placed (hl s List.mem_cons_self)) fun u hu => hl u (List.mem_cons_of_mem _ hu)
theorem Sound.rounds {S l : Sets} (hl : ∀ s ∈ l, s ∈ S) : ∀ {n : Nat} {T : Places}, Sound S T → Sound S (rounds l n T)
  | 0, _, h => h
  | n + 1, _, h => Sound.rounds hl (n := n) (h.fold hl)

/-- nothing more is placed of l -/
def Closed (l : Sets) (T : Places) : Prop := ∀ s ∈ l, placed T s = T
theorem placed_len (T : Places) (s : Bytes × Set_) : T.length ≤ (placed T s).length ∧ ((placed T s).length = T.length → placed T s = T) := by
  rcases placed_cases T s with e | ⟨_, p, e, _⟩
  · rw [e]; exact ⟨Nat.le_refl _, fun _ => rfl⟩
  · rw [e, List.length_append]; exact ⟨by simp, fun h => by simp at h⟩
theorem fold_len : ∀ (l : Sets) (T : Places), T.length ≤ (l.foldl placed T).length ∧ ((l.foldl placed T).length = T.length → Closed l T ∧ l.foldl placed T = T)
  | [], T => ⟨Nat.le_refl _, fun _ => ⟨fun _ h => absurd h (by simp), rfl⟩⟩
  | s :: l, T => by
    have a := placed_len T s
    have b := fold_len l (placed T s)
    rw [List.foldl_cons]
    refine ⟨Nat.le_trans a.1 b.1, fun h => ?_⟩
    have e1 : (placed T s).length = T.length := Nat.le_antisymm (by omega) a.1
    have e2 := a.2 e1
    obtain ⟨c, d⟩ := b.2 (by omega)
    rw [e2] at c d ⊢
    refine ⟨fun u hu => ?_, d⟩
    rcases List.mem_cons.mp hu with rfl | hu
    · exact e2
    · exact c u hu
theorem rounds_closed {l : Sets} : ∀ {n : Nat} {T : Places}, Closed l T → rounds l n T = T
  | 0, _, _ => rfl
  | n + 1, T, h => by
    have f : l.foldl placed T = T := by
      have : ∀ k : Sets, (∀ s ∈ k, s ∈ l) → k.foldl placed T = T := fun k => by
        induction k with
        | nil => intro _; rfl
        | cons s k ih =>
          intro hk
          rw [List.foldl_cons, h s (hk s List.mem_cons_self)]
          exact ih fun u hu => hk u (List.mem_cons_of_mem _ hu)
      exact this l fun _ z => z
    show rounds l n (l.foldl placed T) = T
    rw [f]
    exact rounds_closed h
/-- behind n rounds nothing more is placed, or n more are -/
theorem rounds_len {l : Sets} : ∀ (n : Nat) (T : Places), Closed l (rounds l n T) ∨ T.length + n ≤ (rounds l n T).length
  | 0, T => .inr (Nat.le_refl _)
  | n + 1, T => by
    have a := fold_len l T
    show Closed l (rounds l n (l.foldl placed T)) ∨ _ ≤ (rounds l n (l.foldl placed T)).length
    by_cases e : (l.foldl placed T).length = T.length
    · obtain ⟨c, d⟩ := a.2 e
      left
      rw [d, rounds_closed c]
      exact c
    · rcases rounds_len n (l.foldl placed T) with c | c
      · exact .inl c
      · right; omega
/-- a list without doubles within another one of no greater length has all of it -/
theorem all_of_len {α : Type} [DecidableEq α] : ∀ {a b : List α}, a.Nodup → (∀ x ∈ a, x ∈ b) → b.length ≤ a.length → ∀ x ∈ b, x ∈ a
  | [], b, _, _, h, x, hx => by
    have : b = [] := List.length_eq_zero_iff.mp (Nat.le_zero.mp h)
    rw [this] at hx; exact absurd hx (by simp)
  | y :: a, b, nd, hs, h, x, hx => by
    obtain ⟨n1, n2⟩ := List.nodup_cons.mp nd
    by_cases e : x = y
    · rw [e]; exact List.mem_cons_self
    · have hy : y ∈ b := hs y List.mem_cons_self
      refine List.mem_cons_of_mem _ (all_of_len (b := b.erase y) n2 (fun z hz => ?_) ?_ x ?_)
      · exact (List.mem_erase_of_ne (fun q => n1 (by rw [← q]; exact hz))).mpr (hs z (List.mem_cons_of_mem _ hz))
      · rw [List.length_erase_of_mem hy, List.length_cons] at *
        omega
      · exact (List.mem_erase_of_ne e).mpr hx
/-- so many rounds that all could be placed are enough -/
theorem closed_of {S l : Sets} {n : Nat} {T : Places} (h : Sound S T) (hl : ∀ s ∈ l, s ∈ S) (hn : S.length ≤ T.length + n) : Closed l (rounds l n T) := by
  rcases rounds_len (l := l) n T with c | c
  · exact c
  · have Z := h.rounds hl (n := n)
    have all := all_of_len Z.nd Z.sub (by rw [List.length_map, List.length_map]; omega)
    intro s hs
    obtain ⟨p, hp⟩ := placeIn_some (all s.1 (mem_names (hl s hs)))
    unfold placed
    rw [if_pos (by rw [hp]; rfl)]
/-- a closed sound placing of all sets places just what stands -/
theorem places_iff {S : Sets} (nd : (S.map (·.1)).Nodup) {T : Places} (h : Sound S T) (c : Closed S T) (n : Bytes) (p : Point) : placeIn T n = some p ↔ Stand S n p := by
  refine ⟨h.ok n p, fun hs => ?_⟩
  have uniq : ∀ {n : Bytes} {u v : Set_}, (n, u) ∈ S → (n, v) ∈ S → u = v := fun {n u v} hu hv => by
    clear h c hs
    induction S with
    | nil => exact absurd hu (by simp)
    | cons s S ih =>
      rw [List.map_cons] at nd
      obtain ⟨n1, n2⟩ := List.nodup_cons.mp nd
      rcases List.mem_cons.mp hu with e | hu
      · rcases List.mem_cons.mp hv with e' | hv
        · rw [← e'] at e; exact (Prod.mk.inj e).2
        · exact absurd (List.mem_map_of_mem (f := (·.1)) hv) (by rw [← e] at n1; exact n1)
      · rcases List.mem_cons.mp hv with e' | hv
        · exact absurd (List.mem_map_of_mem (f := (·.1)) hu) (by rw [← e'] at n1; exact n1)
        · exact ih n2 hu hv
  have det : ∀ {n : Bytes} {p : Point}, Stand S n p → ∀ {q : Point}, Stand S n q → p = q := fun {n p} x => by
    induction x with
    | known hk =>
      intro q y
      cases y with
      | known hk' => have := uniq hk hk'; cases this; rfl
      | on hk' _ _ => have := uniq hk hk'; cases this
    | on hk _ _ ia ib =>
      intro q y
      cases y with
      | known hk' => have := uniq hk hk'; cases this
      | on hk' xa xb =>
        have := uniq hk hk'
        cases this
        rw [ia xa, ib xb]
  have there : ∃ q, placeIn T n = some q := by
    induction hs with
    | known hk =>
      have := c _ hk
      unfold placed at this
      split at this
      · rename_i q
        exact Option.isSome_iff_exists.mp q
      · have l := congrArg List.length this
        simp at l
    | on hk _ _ ia ib =>
      obtain ⟨pa, ea⟩ := ia
      obtain ⟨pb, eb⟩ := ib
      have := c _ hk
      unfold placed at this
      split at this
      · rename_i q
        exact Option.isSome_iff_exists.mp q
      · simp only [ea, eb] at this
        have l := congrArg List.length this
        simp at l
  obtain ⟨q, hq⟩ := there
  rw [hq, det hs (h.ok n q hq)]
/-- two closed sound placings are one -/
theorem places_one {S : Sets} (nd : (S.map (·.1)).Nodup) {T T' : Places} (h : Sound S T) (c : Closed S T) (h' : Sound S T') (c' : Closed S T') (n : Bytes) : placeIn T n = placeIn T' n := by
  cases e : placeIn T n with
  | some p => exact ((places_iff nd h' c' n p).mpr ((places_iff nd h c n p).mp e)).symm
  | none =>
    cases e' : placeIn T' n with
    | none => rfl
    | some p =>
      have := (places_iff nd h c n p).mpr ((places_iff nd h' c' n p).mp e')
      rw [e] at this; cases this
theorem spec_sound (b : Book) : Sound b.sets b.places := (Sound.nil b.sets).rounds (l := b.sets) (fun _ h => h)
theorem spec_closed (b : Book) : Closed b.sets b.places := closed_of (Sound.nil b.sets) (fun _ h => h) (by simp)

/-! ### the program's way: the known ones first, then rounds over the others -/
def isHung (s : Bytes × Set_) : Bool := !isKnown s
def knownsOf (S : Sets) : Sets := S.filter isKnown
def hungOf (S : Sets) : Sets := S.filter isHung
def placing (S : Sets) : Places := rounds (hungOf S) (hungOf S).length ((knownsOf S).foldl placed [])
theorem placed_mono {T : Places} {s : Bytes × Set_} {n : Bytes} {p : Point} (h : placeIn T n = some p) : placeIn (placed T s) n = some p := by
  rcases placed_cases T s with e | ⟨hn, q, e, _⟩
  · rw [e]; exact h
  · rw [e, placeIn_snoc _ _ _ _ hn, if_neg (fun z => by rw [z, hn] at h; cases h)]; exact h
theorem fold_mono : ∀ {l : Sets} {T : Places} {n : Bytes} {p : Point}, placeIn T n = some p → placeIn (l.foldl placed T) n = some p
  | [], _, _, _, h => h
  | _ :: l, _, _, _, h => fold_mono (l := l) (placed_mono h)
theorem rounds_mono {l : Sets} : ∀ {k : Nat} {T : Places} {n : Bytes} {p : Point}, placeIn T n = some p → placeIn (rounds l k T) n = some p
  | 0, _, _, _, h => h
  | k + 1, _, _, _, h => rounds_mono (k := k) (fold_mono h)
theorem fold_knowns : ∀ {l : Sets} {T : Places} {s : Bytes × Set_}, s ∈ l → isKnown s = true → ∃ p, placeIn (l.foldl placed T) s.1 = some p
  | [], _, _, h, _ => absurd h (by simp)
  | u :: l, T, s, h, hk => by
    rcases List.mem_cons.mp h with rfl | h
    · have : ∃ p, placeIn (placed T s) s.1 = some p := by
        by_cases e : (placeIn T s.1).isSome = true
        · obtain ⟨p, hp⟩ := Option.isSome_iff_exists.mp e
          exact ⟨p, placed_mono hp⟩
        · have hn : placeIn T s.1 = none := by
            cases q : placeIn T s.1 with
            | none => rfl
            | some _ => rw [q] at e; exact absurd rfl e
          obtain ⟨n, v⟩ := s
          cases v with
          | known x y =>
            have : placed T (n, .known x y) = T ++ [(n, ((x : Rat), (y : Rat)))] := by
              unfold placed
              rw [if_neg e]
            rw [this, placeIn_snoc _ _ _ _ hn, if_pos rfl]
            exact ⟨_, rfl⟩
          | on _ _ _ _ => exact Bool.noConfusion (show false = true from hk)
      obtain ⟨p, hp⟩ := this
      exact ⟨p, fold_mono (l := l) hp⟩
    · exact fold_knowns (l := l) h hk
theorem split_len : ∀ S : Sets, (knownsOf S).length + (hungOf S).length = S.length
  | [] => rfl
  | s :: S => by
    have ih := split_len S
    unfold knownsOf hungOf at *
    rw [List.filter_cons, List.filter_cons]
    unfold isHung at *
    cases h : isKnown s
    · simp only [h, List.length_cons, Bool.not_false, if_true, Bool.false_eq_true, if_false]; omega
    · simp only [h, List.length_cons, Bool.not_true, if_true, Bool.false_eq_true, if_false]; omega
theorem placing_sound (S : Sets) : Sound S (placing S) :=
  ((Sound.nil S).fold (l := knownsOf S) fun _ h => (List.mem_filter.mp h).1).rounds fun _ h => (List.mem_filter.mp h).1
theorem knowns_len {S : Sets} (nd : (S.map (·.1)).Nodup) : (knownsOf S).length ≤ ((knownsOf S).foldl placed []).length := by
  have Z : Sound S ((knownsOf S).foldl placed []) := (Sound.nil S).fold fun _ h => (List.mem_filter.mp h).1
  have nk : ((knownsOf S).map (·.1)).Nodup := nd.sublist (List.Sublist.map _ List.filter_sublist)
  have sub : ∀ n ∈ (knownsOf S).map (·.1), n ∈ ((knownsOf S).foldl placed []).map (·.1) := fun n hn => by
    obtain ⟨s, hs, rfl⟩ := List.mem_map.mp hn
    obtain ⟨p, hp⟩ := fold_knowns (T := []) hs (List.mem_filter.mp hs).2
    exact List.mem_map_of_mem (placeIn_mem hp)
  have := List.Nodup.length_le_of_subset nk sub
  rwa [List.length_map, List.length_map] at this
theorem placing_closed {S : Sets} (nd : (S.map (·.1)).Nodup) : Closed S (placing S) := by
  have Z : Sound S ((knownsOf S).foldl placed []) := (Sound.nil S).fold fun _ h => (List.mem_filter.mp h).1
  have C : Closed (hungOf S) (placing S) := closed_of Z (fun _ h => (List.mem_filter.mp h).1) (by have a := knowns_len nd; have b := split_len S; omega)
  intro s hs
  by_cases hk : isKnown s = true
  · obtain ⟨p, hp⟩ := fold_knowns (T := []) (List.mem_filter.mpr ⟨hs, hk⟩ : s ∈ knownsOf S) hk
    have : placeIn (placing S) s.1 = some p := rounds_mono hp
    unfold placed
    rw [if_pos (by rw [this]; rfl)]
  · exact C s (List.mem_filter.mpr ⟨hs, by unfold isHung; rw [Bool.eq_false_iff.mpr hk]; rfl⟩)
/-- THE LAW: where stations stand by the program's way and by the specification's -/
theorem placing_is (b : Book) (nd : (b.sets.map (·.1)).Nodup) (n : Bytes) : placeIn (placing b.sets) n = b.where_ n :=
  places_one nd (placing_sound _) (placing_closed nd) (spec_sound b) (spec_closed b) n
end CB
end
section
namespace CB
open LsText LsChain
/-! ### what rests on what: the specification's rounds and the program's waiting list come to the same -/
inductive Reach (S : List (Bytes × Set_)) (n : Bytes) : Bytes → Prop where
  | self : Reach S n n
  | on {y x : Bytes} {u : Set_} (h : Reach S n y) (hs : (y, u) ∈ S) (hx : x ∈ endsOf u) : Reach S n x
theorem mem_addAll {x : Bytes} : ∀ {r l : List Bytes}, x ∈ addAll l r ↔ x ∈ l ∨ x ∈ r
  | [], l => by
    show x ∈ l ↔ _
    simp
  | n :: r, l => by
    show x ∈ addAll (if l.contains n = true then l else l ++ [n]) r ↔ _
    rw [mem_addAll]
    by_cases h : l.contains n = true
    · rw [if_pos h]
      have : n ∈ l := by simpa using h
      constructor
      · rintro (q | q)
        · exact .inl q
        · exact .inr (List.mem_cons_of_mem _ q)
      · rintro (q | q)
        · exact .inl q
        · rcases List.mem_cons.mp q with rfl | q
          · exact .inl this
          · exact .inr q
    · rw [if_neg h]
      simp only [List.mem_append, List.mem_cons, List.not_mem_nil, or_false]
      constructor
      · rintro ((q | q) | q)
        · exact .inl q
        · exact .inr (.inl q)
        · exact .inr (.inr q)
      · rintro (q | q | q)
        · exact .inl (.inl q)
        · exact .inl (.inr q)
        · exact .inr q
theorem addAll_nodup : ∀ {r l : List Bytes}, l.Nodup → (addAll l r).Nodup
  | [], _, h => h
  | n :: r, l, h => by
    show (addAll (if l.contains n = true then l else l ++ [n]) r).Nodup
    refine addAll_nodup ?_
    by_cases q : l.contains n = true
    · rw [if_pos q]; exact h
    · rw [if_neg q]
      refine List.nodup_append.mpr ⟨h, by simp, ?_⟩
      intro a ha b hb e
      have : b = n := by simpa using hb
      rw [e, this] at ha
      exact q (by simpa using ha)
section
variable (S : List (Bytes × Set_))
def oneRest (l : List Bytes) : List Bytes := addAll l (S.flatMap fun (s : Bytes × Set_) => if l.contains s.1 = true then endsOf s.2 else [])
def ClosedR (l : List Bytes) : Prop := ∀ s ∈ S, s.1 ∈ l → ∀ x ∈ endsOf s.2, x ∈ l
def cnt (l : List Bytes) : Nat := (S.filter fun s => l.contains s.1).length
end
variable {S : List (Bytes × Set_)}
theorem mem_one {l : List Bytes} {x : Bytes} : x ∈ oneRest S l ↔ x ∈ l ∨ ∃ s ∈ S, s.1 ∈ l ∧ x ∈ endsOf s.2 := by
  unfold oneRest
  rw [mem_addAll, List.mem_flatMap]
  constructor
  · rintro (h | ⟨s, hs, h⟩)
    · exact .inl h
    · by_cases q : l.contains s.1 = true
      · rw [if_pos q] at h; exact .inr ⟨s, hs, by simpa using q, h⟩
      · rw [if_neg q] at h; exact absurd h (by simp)
  · rintro (h | ⟨s, hs, q, h⟩)
    · exact .inl h
    · exact .inr ⟨s, hs, by rw [if_pos (by simpa using q)]; exact h⟩
theorem filter_len {α : Type} {p q : α → Bool} : ∀ {l : List α}, (∀ x ∈ l, p x = true → q x = true) → (l.filter p).length ≤ (l.filter q).length ∧ ((l.filter p).length = (l.filter q).length → ∀ x ∈ l, q x = true → p x = true)
  | [], _ => ⟨Nat.le_refl _, fun _ _ h => absurd h (by simp)⟩
  | a :: l, h => by
    obtain ⟨i1, i2⟩ := filter_len (l := l) fun x hx => h x (List.mem_cons_of_mem _ hx)
    rw [List.filter_cons, List.filter_cons]
    cases hp : p a with
    | true =>
      rw [h a List.mem_cons_self hp]
      simp only [if_true, List.length_cons]
      refine ⟨by omega, fun e x hx hq => ?_⟩
      rcases List.mem_cons.mp hx with rfl | hx
      · exact hp
      · exact i2 (by omega) x hx hq
    | false =>
      cases hq : q a with
      | true =>
        simp only [if_true, Bool.false_eq_true, if_false, List.length_cons]
        exact ⟨by omega, fun e => by omega⟩
      | false =>
        simp only [Bool.false_eq_true, if_false]
        refine ⟨i1, fun e x hx hx' => ?_⟩
        rcases List.mem_cons.mp hx with rfl | hx
        · rw [hq] at hx'; cases hx'
        · exact i2 e x hx hx'
theorem one_step (l : List Bytes) : cnt S l ≤ cnt S (oneRest S l) ∧ (cnt S l = cnt S (oneRest S l) → ClosedR S (oneRest S l)) := by
  have F := filter_len (l := S) (p := fun s => l.contains s.1) (q := fun s => (oneRest S l).contains s.1) fun s _ h => by
    have : s.1 ∈ oneRest S l := mem_one.mpr (.inl (by simpa using h))
    simpa using this
  refine ⟨F.1, fun e s hs hm x hx => mem_one.mpr (.inr ⟨s, hs, ?_, hx⟩)⟩
  have := F.2 e s hs (by simpa using hm)
  simpa using this
theorem closed_one {l : List Bytes} (h : ClosedR S l) {x : Bytes} : x ∈ oneRest S l ↔ x ∈ l := by
  rw [mem_one]
  exact ⟨fun q => q.elim id fun ⟨s, hs, a, b⟩ => h s hs a x b, .inl⟩
theorem closed_keep {l : List Bytes} (h : ClosedR S l) : ClosedR S (oneRest S l) := fun s hs a x b => (closed_one h).mpr (h s hs ((closed_one h).mp a) x b)
theorem rests_keep : ∀ {n : Nat} {l : List Bytes}, ClosedR S l → ClosedR S (restsFrom S n l)
  | 0, _, h => h
  | n + 1, _, h => rests_keep (n := n) (closed_keep h)
theorem rests_cnt : ∀ (n : Nat) (l : List Bytes), ClosedR S (restsFrom S n l) ∨ cnt S l + n ≤ cnt S (restsFrom S n l)
  | 0, _ => .inr (Nat.le_refl _)
  | n + 1, l => by
    have a := one_step (S := S) l
    show ClosedR S (restsFrom S n (oneRest S l)) ∨ _ ≤ cnt S (restsFrom S n (oneRest S l))
    by_cases e : cnt S l = cnt S (oneRest S l)
    · exact .inl (rests_keep (a.2 e))
    · rcases rests_cnt n (oneRest S l) with c | c
      · exact .inl c
      · right; omega
theorem rests_closed (n : Bytes) : ClosedR S (restsFrom S S.length [n]) := by
  rcases rests_cnt (S := S) S.length [n] with c | c
  · exact c
  · have le : cnt S (restsFrom S S.length [n]) ≤ S.length := List.length_filter_le _ _
    have z : cnt S [n] = 0 := by omega
    refine rests_keep fun s hs hm => ?_
    have : s ∈ S.filter fun s => [n].contains s.1 := List.mem_filter.mpr ⟨hs, by simpa using hm⟩
    unfold cnt at z
    rw [List.length_eq_zero_iff.mp z] at this
    exact absurd this (by simp)
theorem rests_sound : ∀ {k : Nat} {l : List Bytes} {n : Bytes}, (∀ x ∈ l, Reach S n x) → ∀ x ∈ restsFrom S k l, Reach S n x
  | 0, _, _, h => h
  | k + 1, l, n, h => rests_sound (k := k) (l := oneRest S l) fun x hx => by
    rcases mem_one.mp hx with q | ⟨s, hs, a, b⟩
    · exact h x q
    · exact .on (h _ a) (u := s.2) hs b
theorem rests_first : ∀ {k : Nat} {l : List Bytes} {x : Bytes}, x ∈ l → x ∈ restsFrom S k l
  | 0, _, _, h => h
  | k + 1, l, _, h => rests_first (k := k) (l := oneRest S l) (mem_one.mpr (.inl h))
theorem rests_iff (n x : Bytes) : x ∈ restsFrom S S.length [n] ↔ Reach S n x := by
  refine ⟨fun h => rests_sound (fun y hy => by rw [show y = n by simpa using hy]; exact .self) x h, fun h => ?_⟩
  induction h with
  | self => exact rests_first (by simp)
  | on _ hs hx ih => exact rests_closed n _ hs ih _ hx

/-! ### the program's way: found, and those that wait -/
/-- the ends of the line on which a station is set -/
def lineEnds (S : List (Bytes × Set_)) (n : Bytes) : Option (Bytes × Bytes) := match (S.find? fun s => s.1 == n && !isKnown s) with
  | some (_, .on a b _ _) => some (a, b)
  | _ => none
structure Waits (S : List (Bytes × Set_)) (n : Bytes) (found waiting : List Bytes) : Prop where
  self : n ∈ found
  nd : found.Nodup
  sub : ∀ x ∈ waiting, x ∈ found
  ok : ∀ x ∈ found, Reach S n x
  cl : ∀ s ∈ S, s.1 ∈ found → s.1 ∉ waiting → ∀ x ∈ endsOf s.2, x ∈ found
theorem Waits.start (S : List (Bytes × Set_)) (n : Bytes) : Waits S n [n] [n] where
  self := by simp
  nd := by simp
  sub := fun _ h => h
  ok := fun x h => by
    rw [show x = n by simpa using h]
    exact .self
  cl := fun _ _ h h' => absurd h h'
theorem uniq_of {S : List (Bytes × Set_)} (nd : (S.map (·.1)).Nodup) : ∀ {n : Bytes} {u v : Set_}, (n, u) ∈ S → (n, v) ∈ S → u = v := fun {n u v} hu hv => by
  induction S with
  | nil => exact absurd hu (by simp)
  | cons s S ih =>
    rw [List.map_cons] at nd
    obtain ⟨n1, n2⟩ := List.nodup_cons.mp nd
    rcases List.mem_cons.mp hu with e | hu
    · rcases List.mem_cons.mp hv with e' | hv
      · rw [← e'] at e; exact (Prod.mk.inj e).2
      · exact absurd (List.mem_map_of_mem (f := (·.1)) hv) (by rw [← e] at n1; exact n1)
    · rcases List.mem_cons.mp hv with e' | hv
      · exact absurd (List.mem_map_of_mem (f := (·.1)) hu) (by rw [← e'] at n1; exact n1)
      · exact ih n2 hu hv
/-- the last one that waits rests on no line -/
theorem Waits.leaf {n one : Bytes} {found waiting : List Bytes} (h : Waits S n found (waiting ++ [one])) (hl : ∀ u, (one, u) ∈ S → endsOf u = []) : Waits S n found waiting where
  self := h.self
  nd := h.nd
  sub := fun x hx => h.sub x (List.mem_append_left _ hx)
  ok := h.ok
  cl := fun s hs hf hw x hx => by
    by_cases e : s.1 = one
    · obtain ⟨a, u⟩ := s
      have e : a = one := e
      subst e
      have := hl u hs
      rw [this] at hx
      exact absurd hx (by simp)
    · refine h.cl s hs hf (fun q => ?_) x hx
      rcases List.mem_append.mp q with q | q
      · exact hw q
      · exact e (by simpa using q)
/-- an end is put on: where it is new it is found and waits -/
def putEnd (f w : List Bytes) (x : Bytes) : List Bytes × List Bytes := if x ∈ f then (f, w) else (f ++ [x], w ++ [x])
theorem Waits.line {n one a b : Bytes} {m c : Nat} {found waiting : List Bytes} (nd : (S.map (·.1)).Nodup) (h : Waits S n found (waiting ++ [one])) (hs : (one, Set_.on a b m c) ∈ S) :
    Waits S n (putEnd (putEnd found waiting a).1 (putEnd found waiting a).2 b).1 (putEnd (putEnd found waiting a).1 (putEnd found waiting a).2 b).2 := by
  have ho : one ∈ found := h.sub one (by simp)
  have ra : Reach S n a := .on (h.ok _ ho) hs (by simp [endsOf])
  have rb : Reach S n b := .on (h.ok _ ho) hs (by simp [endsOf])
  have step : ∀ {f w : List Bytes} {x : Bytes}, (n ∈ f ∧ f.Nodup ∧ (∀ x ∈ w, x ∈ f) ∧ ∀ x ∈ f, Reach S n x) → Reach S n x → (n ∈ (putEnd f w x).1 ∧ (putEnd f w x).1.Nodup ∧ (∀ z ∈ (putEnd f w x).2, z ∈ (putEnd f w x).1) ∧ ∀ z ∈ (putEnd f w x).1, Reach S n z) := fun {f w x} ⟨p1, p2, p3, p4⟩ rx => by
    unfold putEnd
    by_cases q : x ∈ f
    · rw [if_pos q]; exact ⟨p1, p2, p3, p4⟩
    · rw [if_neg q]
      refine ⟨List.mem_append_left _ p1, List.nodup_append.mpr ⟨p2, by simp, fun y hy z hz e => ?_⟩, fun z hz => ?_, fun z hz => ?_⟩
      · rw [show z = x by simpa using hz] at e
        rw [e] at hy
        exact q hy
      · rcases List.mem_append.mp hz with k | k
        · exact List.mem_append_left _ (p3 z k)
        · exact List.mem_append_right _ k
      · rcases List.mem_append.mp hz with k | k
        · exact p4 z k
        · rw [show z = x by simpa using k]; exact rx
  have s0 : n ∈ found ∧ found.Nodup ∧ (∀ x ∈ waiting, x ∈ found) ∧ ∀ x ∈ found, Reach S n x := ⟨h.self, h.nd, fun x hx => h.sub x (List.mem_append_left _ hx), h.ok⟩
  have s1 := step s0 ra
  have s2 := step s1 rb
  have m1 : ∀ {f w : List Bytes} {x : Bytes}, (∀ z ∈ f, z ∈ (putEnd f w x).1) ∧ x ∈ (putEnd f w x).1 := fun {f w x} => by
    unfold putEnd
    by_cases q : x ∈ f
    · rw [if_pos q]; exact ⟨fun _ z => z, q⟩
    · rw [if_neg q]; exact ⟨fun _ z => List.mem_append_left _ z, by simp⟩
  have m2 : ∀ {f w : List Bytes} {x z : Bytes}, z ∈ (putEnd f w x).1 → z ∉ (putEnd f w x).2 → z ∈ f ∧ z ∉ w := fun {f w x z} => by
    unfold putEnd
    by_cases q : x ∈ f
    · rw [if_pos q]; exact fun a b => ⟨a, b⟩
    · rw [if_neg q]
      intro k1 k2
      rcases List.mem_append.mp k1 with k | k
      · exact ⟨k, fun y => k2 (List.mem_append_left _ y)⟩
      · exact absurd (List.mem_append_right w k) k2
  refine ⟨s2.1, s2.2.1, s2.2.2.1, s2.2.2.2, fun s hs' hf hw x hx => ?_⟩
  obtain ⟨k1, k2⟩ := m2 hf hw
  obtain ⟨k3, k4⟩ := m2 k1 k2
  by_cases e : s.1 = one
  · obtain ⟨y, u⟩ := s
    have e : y = one := e
    subst e
    have := uniq_of nd hs' hs
    subst this
    have : x = a ∨ x = b := by simpa [endsOf] using hx
    rcases this with rfl | rfl
    · exact m1.1 _ m1.2
    · exact m1.2
  · refine m1.1 _ (m1.1 _ (h.cl s hs' k3 (fun q => ?_) x hx))
    rcases List.mem_append.mp q with q | q
    · exact k4 q
    · exact e (by simpa using q)
theorem Waits.done {n : Bytes} {found : List Bytes} (h : Waits S n found []) (x : Bytes) : x ∈ found ↔ Reach S n x := by
  refine ⟨h.ok x, fun r => ?_⟩
  induction r with
  | self => exact h.self
  | on _ hs hx ih => exact h.cl _ hs ih (by simp) _ hx
/-- all that may be found -/
def universe_ (S : List (Bytes × Set_)) (n : Bytes) : List Bytes := n :: S.flatMap fun s => endsOf s.2
theorem reach_in {n x : Bytes} (h : Reach S n x) : x ∈ universe_ S n := by
  cases h with
  | self => exact List.mem_cons_self
  | on _ hs hx => exact List.mem_cons_of_mem _ (List.mem_flatMap.mpr ⟨_, hs, hx⟩)
theorem ends_len (u : Set_) : (endsOf u).length ≤ 2 := by cases u <;> simp [endsOf]
theorem universe_len (S : List (Bytes × Set_)) (n : Bytes) : (universe_ S n).length ≤ 2 * S.length + 1 := by
  unfold universe_
  rw [List.length_cons]
  have : (S.flatMap fun s => endsOf s.2).length ≤ 2 * S.length := by
    induction S with
    | nil => exact Nat.le_refl _
    | cons s S ih =>
      rw [List.flatMap_cons, List.length_append, List.length_cons]
      have := ends_len s.2
      omega
  omega
theorem Waits.found_len {n : Bytes} {found waiting : List Bytes} (h : Waits S n found waiting) : found.length ≤ 2 * S.length + 1 :=
  Nat.le_trans (List.Nodup.length_le_of_subset h.nd fun x hx => reach_in (h.ok x hx)) (universe_len S n)
theorem putEnd_len (f w : List Bytes) (x : Bytes) : ((putEnd f w x).1.length = f.length ∧ (putEnd f w x).2.length = w.length) ∨ ((putEnd f w x).1.length = f.length + 1 ∧ (putEnd f w x).2.length = w.length + 1) := by
  unfold putEnd
  by_cases q : x ∈ f
  · rw [if_pos q]; exact .inl ⟨rfl, rfl⟩
  · rw [if_neg q]; exact .inr ⟨by simp, by simp⟩
end CB
end
section
namespace CB
open LsText LsChain
/-! ### books in their bounds -/
abbrev LineT := Bytes × Bytes × Nat × List LsChain.Entry
def WfE (m : Nat) (e : LsChain.Entry) : Prop := e.at_ ≤ m ∧ match e.mark with
  | .station n => n.length ≤ 31
  | .tie n o => n.length ≤ 31 ∧ o.natAbs ≤ 10000
  | .feature f o => f ≤ 9999 ∧ o.natAbs ≤ 10000
def WfT : Told → Prop
  | .known n x y => n.length ≤ 31 ∧ x ≤ 999999 ∧ y ≤ 999999
  | .line a b m es => a.length ≤ 31 ∧ b.length ≤ 31 ∧ 0 < m ∧ m ≤ 100000 ∧ ∀ e ∈ es, WfE m e
structure WfB (b : Book) : Prop where
  unit : ∀ u, b.unit = some u → 0 < u.1 ∧ u.1 ≤ 1000000 ∧ 0 < u.2 ∧ u.2 ≤ 1000000
  told : ∀ t ∈ b.told, WfT t
  nd : (b.sets.map (·.1)).Nodup
  s64 : b.sets.length ≤ 64
  l64 : b.lines.length ≤ 64
  e512 : b.entries ≤ 512
def isKnownT : Told → Bool
  | .known _ _ _ => true
  | _ => false
def isLineT (t : Told) : Bool := !isKnownT t
theorem told_len (b : Book) : b.told.length ≤ b.sets.length + b.lines.length := by
  unfold Book.sets Book.lines
  induction b.told with
  | nil => exact Nat.le_refl _
  | cons t ts ih =>
    rw [List.flatMap_cons, List.length_append, List.length_cons]
    cases t with
    | known n x y =>
      rw [List.filterMap_cons_none (by rfl)]
      have : (setsIn (.known n x y)).length = 1 := rfl
      omega
    | line a c m es =>
      rw [List.filterMap_cons_some (b := (a, c, m, es)) (by rfl), List.length_cons]
      omega
theorem WfB.told128 {b : Book} (h : WfB b) : b.told.length ≤ 128 := by
  have := told_len b
  have := h.s64
  have := h.l64
  omega
def ents (ls : List LineT) : List (LineT × LsChain.Entry) := ls.flatMap fun l => l.2.2.2.map fun e => (l, e)
def entriesL (b : Book) : List (LineT × LsChain.Entry) := ents b.lines
theorem ents_snoc {ls : List LineT} {i : Nat} {l : LineT} (h : ls[i]? = some l) : ents (ls.take (i + 1)) = ents (ls.take i) ++ l.2.2.2.map fun e => (l, e) := by
  unfold ents
  rw [List.take_add_one, h, List.flatMap_append]
  simp
theorem ents_le (ls : List LineT) (i : Nat) : (ents (ls.take i)).length ≤ (ents ls).length := by
  unfold ents
  conv => rhs; rw [← List.take_append_drop i ls, List.flatMap_append, List.length_append]
  omega
theorem entries_len (b : Book) : (entriesL b).length = b.entries := by
  unfold entriesL ents Book.entries
  induction b.lines with
  | nil => rfl
  | cons l ls ih => rw [List.flatMap_cons, List.length_append, ih, List.map_cons, List.sum_cons, List.length_map]
theorem mem_lines {b : Book} {l : LineT} (h : l ∈ b.lines) : Told.line l.1 l.2.1 l.2.2.1 l.2.2.2 ∈ b.told := by
  unfold Book.lines at h
  obtain ⟨t, ht, e⟩ := List.mem_filterMap.mp h
  cases t with
  | known n x y => cases e
  | line a c m es =>
    cases e
    exact ht
theorem WfB.line {b : Book} (h : WfB b) {l : LineT} (hl : l ∈ b.lines) : l.1.length ≤ 31 ∧ l.2.1.length ≤ 31 ∧ 0 < l.2.2.1 ∧ l.2.2.1 ≤ 100000 ∧ ∀ e ∈ l.2.2.2, WfE l.2.2.1 e := h.told _ (mem_lines hl)
theorem line_entries {b : Book} (h : WfB b) {l : LineT} (hl : l ∈ b.lines) : l.2.2.2.length ≤ 512 := by
  have e := h.e512
  unfold Book.entries at e
  refine Nat.le_trans ?_ e
  generalize b.lines = ls at hl
  induction ls with
  | nil => exact absurd hl (by simp)
  | cons k ks ih =>
    rw [List.map_cons, List.sum_cons]
    rcases List.mem_cons.mp hl with rfl | hk
    · omega
    · have := ih hk
      omega
theorem mem_entries {b : Book} {p : LineT × LsChain.Entry} (h : p ∈ entriesL b) : p.1 ∈ b.lines ∧ p.2 ∈ p.1.2.2.2 := by
  unfold entriesL ents at h
  obtain ⟨l, hl, hp⟩ := List.mem_flatMap.mp h
  obtain ⟨e, he, rfl⟩ := List.mem_map.mp hp
  exact ⟨hl, he⟩
/-! ### what's met: kind, name, number, beside -/
def mkKind : Mark → Nat
  | .station _ => 0
  | .tie _ _ => 1
  | .feature _ _ => 2
def mkName : Mark → Bytes
  | .station n => n
  | .tie n _ => n
  | .feature _ _ => []
def mkNum : Mark → Nat
  | .feature f _ => f
  | _ => 0
def mkBes : Mark → Int
  | .station _ => 0
  | .tie _ o => o
  | .feature _ o => o
theorem WfE.name {m : Nat} {e : LsChain.Entry} (h : WfE m e) : (mkName e.mark).length ≤ 31 := by
  obtain ⟨_, h⟩ := h
  cases hm : e.mark with
  | station n => rw [hm] at h; exact h
  | tie n o => rw [hm] at h; exact h.1
  | feature f o => exact Nat.zero_le _
theorem WfE.bes {m : Nat} {e : LsChain.Entry} (h : WfE m e) : (mkBes e.mark).natAbs ≤ 10000 := by
  obtain ⟨_, h⟩ := h
  cases hm : e.mark with
  | station n => exact Nat.zero_le _
  | tie n o => rw [hm] at h; exact h.2
  | feature f o => rw [hm] at h; exact h.2
/-- the names that are set, sentence by sentence -/
def setNames (t : Told) : List Bytes := match t with
  | .known n _ _ => [n]
  | .line _ _ _ es => (es.filter fun e => mkKind e.mark == 0).map fun e => mkName e.mark
theorem setNames_is (t : Told) : setNames t = (setsIn t).map (·.1) := by
  cases t with
  | known n x y => rfl
  | line a b m es =>
    show (es.filter fun e => mkKind e.mark == 0).map (fun e => mkName e.mark) = (es.filterMap fun (e : LsChain.Entry) => match e.mark with
      | .station n => some (n, Set_.on a b m e.at_)
      | _ => none).map (·.1)
    induction es with
    | nil => rfl
    | cons e es ih =>
      rw [List.filter_cons, List.filterMap_cons]
      cases hm : e.mark with
      | station n =>
        rw [if_pos (by rfl), List.map_cons, List.map_cons, ih, hm]
        rfl
      | tie n o =>
        rw [if_neg (by intro z; exact Bool.noConfusion z)]
        exact ih
      | feature f o =>
        rw [if_neg (by intro z; exact Bool.noConfusion z)]
        exact ih
theorem sets_names (b : Book) : b.sets.map (·.1) = b.told.flatMap setNames := by
  unfold Book.sets
  rw [List.map_flatMap]
  congr 1
  funext t
  exact (setNames_is t).symm
/-- names told, entry by entry -/
theorem names_entries (es : List LsChain.Entry) : (es.filterMap fun (e : LsChain.Entry) => match e.mark with
    | .station n => some n
    | .tie n _ => some n
    | _ => none) = (es.filter fun e => mkKind e.mark != 2).map fun e => mkName e.mark := by
  induction es with
  | nil => rfl
  | cons e es ih =>
    rw [List.filter_cons, List.filterMap_cons]
    cases hm : e.mark with
    | station n =>
      rw [if_pos (by rfl), List.map_cons, hm]
      exact congrArg _ ih
    | tie n o =>
      rw [if_pos (by rfl), List.map_cons, hm]
      exact congrArg _ ih
    | feature f o =>
      rw [if_neg (by intro z; exact Bool.noConfusion z)]
      exact ih
end CB
end
section
namespace CB
open LsText LsChain
/-! ### adding names -/
theorem addAll_append : ∀ (r s l : List Bytes), addAll l (r ++ s) = addAll (addAll l r) s
  | [], _, _ => rfl
  | n :: r, s, l => by
    show addAll (if l.contains n = true then l else l ++ [n]) (r ++ s) = _
    rw [addAll_append r s]
    rfl
theorem addAll_one (l : List Bytes) (n : Bytes) : addAll l [n] = if l.contains n = true then l else l ++ [n] := rfl
theorem addAll_len : ∀ (r l : List Bytes), (addAll l r).length ≤ l.length + r.length
  | [], l => by
    show l.length ≤ _
    omega
  | n :: r, l => by
    have ih := addAll_len r (if l.contains n = true then l else l ++ [n])
    show (addAll (if l.contains n = true then l else l ++ [n]) r).length ≤ _
    rw [List.length_cons]
    split at ih
    · rename_i h
      rw [if_pos h]
      omega
    · rename_i h
      rw [if_neg h]
      rw [List.length_append, List.length_singleton] at ih
      omega
def namesT (t : Told) : List Bytes := namesIn t
theorem names_total (b : Book) : (b.told.flatMap namesIn).length ≤ 2 * b.told.length + b.entries := by
  unfold Book.entries Book.lines
  induction b.told with
  | nil => exact Nat.le_refl _
  | cons t ts ih =>
    rw [List.flatMap_cons, List.length_append, List.length_cons]
    cases t with
    | known n x y =>
      rw [List.filterMap_cons_none (by rfl)]
      have : (namesIn (.known n x y)).length = 1 := rfl
      omega
    | line a c m es =>
      rw [List.filterMap_cons_some (b := (a, c, m, es)) (by rfl), List.map_cons, List.sum_cons]
      have h : (namesIn (.line a c m es)).length ≤ 2 + es.length := by
        show (_ + 1) + 1 ≤ 2 + es.length
        have := List.length_filterMap_le (fun (e : LsChain.Entry) => match e.mark with
          | .station n => some n
          | .tie n _ => some n
          | _ => none) es
        refine Nat.le_trans (Nat.add_le_add_right (Nat.add_le_add_right this 1) 1) ?_
        omega
      have e2 : (((a, c, m, es) : LineT).2.2.2).length = es.length := rfl
      omega
theorem names_line (a c : Bytes) (m : Nat) (es : List LsChain.Entry) : namesIn (.line a c m es) = a :: c :: (es.filter fun e => mkKind e.mark != 2).map fun e => mkName e.mark := by
  rw [← names_entries]
  rfl
/-! ### a line struck -/
def lineCount (ts : List Told) : Nat := (ts.filter isLineT).length
theorem without_snoc : ∀ (ts : List Told) (k : Nat) (t : Told), ChainSpec.without k (ts ++ [t]) = ChainSpec.without k ts ++ (if isKnownT t = true ∨ lineCount ts ≠ k then [t] else [])
  | [], k, .known n x y => rfl
  | [], k, .line a b m es => by
    show (if k = 0 then [] else [Told.line a b m es]) = [] ++ if isKnownT (.line a b m es) = true ∨ 0 ≠ k then [Told.line a b m es] else []
    by_cases h : k = 0
    · rw [if_pos h, if_neg (by rintro (z | z); cases z; exact z h.symm)]
      rfl
    · rw [if_neg h, if_pos (.inr (fun z => h z.symm))]
      rfl
  | .known n x y :: ts, k, t => by
    show Told.known n x y :: ChainSpec.without k (ts ++ [t]) = Told.known n x y :: ChainSpec.without k ts ++ _
    rw [without_snoc ts k t]
    rfl
  | .line a b m es :: ts, k, t => by
    show (if k = 0 then ts ++ [t] else Told.line a b m es :: ChainSpec.without (k - 1) (ts ++ [t])) = (if k = 0 then ts else Told.line a b m es :: ChainSpec.without (k - 1) ts) ++ if isKnownT t = true ∨ lineCount ts + 1 ≠ k then [t] else []
    by_cases h : k = 0
    · rw [if_pos h, if_pos h, if_pos (.inr (by omega))]
    · rw [if_neg h, if_neg h, without_snoc ts (k - 1) t]
      by_cases q : isKnownT t = true ∨ lineCount ts ≠ k - 1
      · rw [if_pos q, if_pos (q.imp id (fun z => by omega))]
        rfl
      · rw [if_neg q, if_neg (fun z => q (z.imp id (fun z => by omega)))]
        rfl
theorem lineCount_snoc (ts : List Told) (t : Told) : lineCount (ts ++ [t]) = lineCount ts + if isLineT t = true then 1 else 0 := by
  unfold lineCount
  rw [List.filter_append, List.length_append]
  congr 1
  cases h : isLineT t <;> simp [h]
theorem lineCount_lines (b : Book) : lineCount b.told = b.lines.length := by
  unfold lineCount Book.lines
  induction b.told with
  | nil => rfl
  | cons t ts ih =>
    rw [List.filter_cons]
    cases t with
    | known n x y =>
      rw [List.filterMap_cons_none (by rfl)]
      exact ih
    | line a c m es =>
      rw [List.filterMap_cons_some (b := (a, c, m, es)) (by rfl), List.length_cons, ← ih]
      rfl
theorem without_sub : ∀ (ts : List Told) (k : Nat), (ChainSpec.without k ts).Sublist ts
  | [], _ => List.Sublist.refl _
  | .known n x y :: ts, k => (without_sub ts k).cons_cons _
  | .line a b m es :: ts, k => by
    show (if k = 0 then ts else Told.line a b m es :: ChainSpec.without (k - 1) ts).Sublist _
    split
    · exact List.sublist_cons_self _ _
    · exact (without_sub ts (k - 1)).cons_cons _
theorem flatMap_sub {α β : Type} {f : α → List β} : ∀ {l r : List α}, l.Sublist r → (l.flatMap f).Sublist (r.flatMap f)
  | _, _, .slnil => List.Sublist.refl _
  | _, _, .cons a h => by
    rw [List.flatMap_cons]
    exact (flatMap_sub h).trans (List.sublist_append_right _ _)
  | _, _, .cons_cons a h => by
    rw [List.flatMap_cons, List.flatMap_cons]
    exact List.Sublist.append (List.Sublist.refl _) (flatMap_sub h)
theorem sum_sub {l r : List Nat} (h : l.Sublist r) : l.sum ≤ r.sum := by
  induction h with
  | slnil => exact Nat.le_refl _
  | cons a h ih => rw [List.sum_cons]; omega
  | cons_cons a h ih => rw [List.sum_cons, List.sum_cons]; omega
/-- fewer sentences are in bounds too -/
theorem WfB.sub {b : Book} (h : WfB b) {ts : List Told} (s : ts.Sublist b.told) : WfB ⟨b.unit, ts⟩ where
  unit := h.unit
  told := fun t ht => h.told t (s.subset ht)
  nd := h.nd.sublist ((flatMap_sub s).map _)
  s64 := Nat.le_trans (flatMap_sub s).length_le h.s64
  l64 := Nat.le_trans (s.filterMap _).length_le h.l64
  e512 := Nat.le_trans (sum_sub ((s.filterMap _).map _)) h.e512
/-- a known station moved -/
theorem moved_sets (n : Bytes) (x y : Nat) (ts : List Told) : ((ts.map (ChainSpec.moved n x y)).flatMap setsIn).map (·.1) = (ts.flatMap setsIn).map (·.1) := by
  induction ts with
  | nil => rfl
  | cons t ts ih =>
    rw [List.map_cons, List.flatMap_cons, List.flatMap_cons, List.map_append, List.map_append, ih]
    congr 1
    cases t with
    | known m u v =>
      show (setsIn (if m = n then .known m x y else .known m u v)).map (·.1) = [m]
      split <;> rfl
    | line a b m es => rfl
theorem moved_lines (n : Bytes) (x y : Nat) (ts : List Told) : (ts.map (ChainSpec.moved n x y)).filterMap lineOf = ts.filterMap lineOf := by
  induction ts with
  | nil => rfl
  | cons t ts ih =>
    rw [List.map_cons, List.filterMap_cons, List.filterMap_cons, ih]
    cases t with
    | known m u v =>
      have e : lineOf (ChainSpec.moved n x y (.known m u v)) = none := by
        show lineOf (if m = n then .known m x y else .known m u v) = none
        split <;> rfl
      rw [e]
      rfl
    | line a b m es => rfl
theorem WfB.moved {b : Book} (h : WfB b) {n : Bytes} {x y : Nat} (hx : x ≤ 999999) (hy : y ≤ 999999) : WfB ⟨b.unit, b.told.map (ChainSpec.moved n x y)⟩ where
  unit := h.unit
  told := fun t ht => by
    obtain ⟨u, hu, rfl⟩ := List.mem_map.mp ht
    have w := h.told u hu
    cases u with
    | known m a c =>
      show WfT (if m = n then .known m x y else .known m a c)
      split
      · exact ⟨w.1, hx, hy⟩
      · exact w
    | line a c m es => exact w
  nd := by
    have := moved_sets n x y b.told
    show (((b.told.map (ChainSpec.moved n x y)).flatMap setsIn).map (·.1)).Nodup
    rw [this]
    exact h.nd
  s64 := by
    have := congrArg List.length (moved_sets n x y b.told)
    rw [List.length_map, List.length_map] at this
    show ((b.told.map (ChainSpec.moved n x y)).flatMap setsIn).length ≤ 64
    rw [this]
    exact h.s64
  l64 := by
    show ((b.told.map (ChainSpec.moved n x y)).filterMap lineOf).length ≤ 64
    rw [moved_lines]
    exact h.l64
  e512 := by
    show (((b.told.map (ChainSpec.moved n x y)).filterMap lineOf).map _).sum ≤ 512
    rw [moved_lines]
    exact h.e512
end CB
end
section
namespace CB
open LsText LsChain
/-! ### places: lowest form, how large -/
/-- east, north and below, divided by what divides all three -/
def lowOf (e n b : Int) : Int × Int × Int := (e / ((Int.gcd n ((Int.gcd e b : Nat) : Int) : Nat) : Int), n / ((Int.gcd n ((Int.gcd e b : Nat) : Int) : Nat) : Int), b / ((Int.gcd n ((Int.gcd e b : Nat) : Int) : Nat) : Int))
theorem low_spec (e n b : Int) (hb : 0 < b) : ∃ g : Nat, 0 < g ∧ g = Int.gcd n ((Int.gcd e b : Nat) : Int) ∧ e = (lowOf e n b).1 * (g : Int) ∧ n = (lowOf e n b).2.1 * (g : Int) ∧ b = (lowOf e n b).2.2 * (g : Int) ∧ 0 < (lowOf e n b).2.2 ∧
    Int.gcd (lowOf e n b).2.1 ((Int.gcd (lowOf e n b).1 (lowOf e n b).2.2 : Nat) : Int) = 1 := by
  have g1 : 0 < Int.gcd e b := Nat.pos_of_ne_zero fun h => by
    have := (Int.gcd_eq_zero_iff.mp h).2
    omega
  have gp : 0 < Int.gcd n ((Int.gcd e b : Nat) : Int) := Nat.pos_of_ne_zero fun h => by
    have := (Int.gcd_eq_zero_iff.mp h).2
    omega
  have d1 : ((Int.gcd n ((Int.gcd e b : Nat) : Int) : Nat) : Int) ∣ n := Int.gcd_dvd_left n _
  have d0 : ((Int.gcd n ((Int.gcd e b : Nat) : Int) : Nat) : Int) ∣ ((Int.gcd e b : Nat) : Int) := Int.gcd_dvd_right n _
  have d2 : ((Int.gcd n ((Int.gcd e b : Nat) : Int) : Nat) : Int) ∣ e := Int.dvd_trans d0 (Int.gcd_dvd_left e b)
  have d3 : ((Int.gcd n ((Int.gcd e b : Nat) : Int) : Nat) : Int) ∣ b := Int.dvd_trans d0 (Int.gcd_dvd_right e b)
  refine ⟨_, gp, rfl, ?_, ?_, ?_, ?_, ?_⟩
  · exact (Int.ediv_mul_cancel d2).symm
  · exact (Int.ediv_mul_cancel d1).symm
  · exact (Int.ediv_mul_cancel d3).symm
  · exact Int.ediv_pos_of_pos_of_dvd hb (by omega) d3
  · show Int.gcd (n / _) ((Int.gcd (e / _) (b / _) : Nat) : Int) = 1
    generalize hg : Int.gcd n ((Int.gcd e b : Nat) : Int) = g at *
    have k1 : Int.gcd (e / (g : Int)) (b / (g : Int)) = Int.gcd e b / g := by
      rw [Int.gcd_ediv d2 d3]
      simp
    rw [k1, Int.natCast_ediv, Int.gcd_ediv d1 d0, hg]
    simp
    exact Nat.div_self gp
/-- a place's two fractions -/
def ptOf (e n b : Int) : Point := ((e : Rat) / (b : Rat), (n : Rat) / (b : Rat))
theorem rat_ne {b : Int} (h : 0 < b) : (b : Rat) ≠ 0 := by
  have : b ≠ 0 := by omega
  exact_mod_cast this
theorem low_pt (e n b : Int) (hb : 0 < b) : ptOf (lowOf e n b).1 (lowOf e n b).2.1 (lowOf e n b).2.2 = ptOf e n b := by
  obtain ⟨g, gp, _, h1, h2, h3, h4, _⟩ := low_spec e n b hb
  have hg : (g : Rat) ≠ 0 := by
    have : g ≠ 0 := by omega
    exact_mod_cast this
  have hz := rat_ne h4
  have key : ∀ x y : Int, x = y * (g : Int) → ((x : Rat)) / (b : Rat) = (y : Rat) / ((lowOf e n b).2.2 : Rat) := fun x y h => by
    have e1 : (x : Rat) = (y : Rat) * (g : Rat) := by rw [h]; push_cast; rfl
    have e2 : (b : Rat) = ((lowOf e n b).2.2 : Rat) * (g : Rat) := by
      have : ((((lowOf e n b).2.2 * (g : Int) : Int)) : Rat) = ((lowOf e n b).2.2 : Rat) * (g : Rat) := by push_cast; rfl
      rw [← this, ← h3]
    rw [e1, e2]
    generalize ((lowOf e n b).2.2 : Rat) = z at *
    grind
  unfold ptOf
  rw [key e _ h1, key n _ h2]
/-- the lowest form's below divides each common one -/
theorem low_dvd {e n b : Int} (hb : 0 < b) (hg : Int.gcd n ((Int.gcd e b : Nat) : Int) = 1) {E N : Int} {M : Nat} (hM : 0 < M) (h : ptOf e n b = ptOf E N (M : Int)) : b.natAbs ≤ M ∧ e * (M : Int) = E * b ∧ n * (M : Int) = N * b := by
  have hz := rat_ne hb
  have hm : ((M : Int) : Rat) ≠ 0 := rat_ne (by omega)
  have key : ∀ x y : Int, (x : Rat) / (b : Rat) = (y : Rat) / ((M : Int) : Rat) → x * (M : Int) = y * b := fun x y q => by
    have : (x : Rat) * ((M : Int) : Rat) = (y : Rat) * (b : Rat) := by
      generalize ((M : Int) : Rat) = m at *
      grind
    exact_mod_cast this
  have h1 := key e E (congrArg Prod.fst h)
  have h2 := key n N (congrArg Prod.snd h)
  refine ⟨?_, h1, h2⟩
  have d1 : b.natAbs ∣ (e * (M : Int)).natAbs := by rw [h1, Int.natAbs_mul]; exact ⟨_, Nat.mul_comm _ _⟩
  have d2 : b.natAbs ∣ (n * (M : Int)).natAbs := by rw [h2, Int.natAbs_mul]; exact ⟨_, Nat.mul_comm _ _⟩
  have d3 : b.natAbs ∣ b.natAbs * M := ⟨M, rfl⟩
  have d4 : b.natAbs ∣ Nat.gcd n.natAbs (Nat.gcd e.natAbs b.natAbs) * M := by
    rw [← Nat.gcd_mul_right, ← Nat.gcd_mul_right]
    refine Nat.dvd_gcd ?_ (Nat.dvd_gcd ?_ d3)
    · rw [Int.natAbs_mul] at d2; exact d2
    · rw [Int.natAbs_mul] at d1; exact d1
  have one : Nat.gcd n.natAbs (Nat.gcd e.natAbs b.natAbs) = 1 := hg
  rw [one, Nat.one_mul] at d4
  exact Nat.le_of_dvd hM d4
/-- a place with so small a common below, within the land -/
def Tame (k : Nat) (p : Point) : Prop := ∃ M E N : Nat, 0 < M ∧ M ≤ 100000 ^ k ∧ E ≤ 999999 * M ∧ N ≤ 999999 * M ∧ p = ptOf (E : Int) (N : Int) (M : Int)
/-- all of them with one common below -/
def TameAll (T : Places) : Prop := ∃ M : Nat, 0 < M ∧ M ≤ 100000 ^ T.length ∧ ∀ x ∈ T, ∃ E N : Nat, E ≤ 999999 * M ∧ N ≤ 999999 * M ∧ x.2 = ptOf (E : Int) (N : Int) (M : Int)
theorem TameAll.nil : TameAll [] := ⟨1, by decide, by decide, fun x h => absurd h (by simp)⟩
theorem pt_scale (E N : Nat) {M : Nat} (m : Nat) (hM : 0 < M) (hm : 0 < m) : ptOf (E : Int) (N : Int) (M : Int) = ptOf ((E * m : Nat) : Int) ((N * m : Nat) : Int) ((M * m : Nat) : Int) := by
  have h1 : ((M : Nat) : Rat) ≠ 0 := by
    have : M ≠ 0 := by omega
    exact_mod_cast this
  have h2 : ((m : Nat) : Rat) ≠ 0 := by
    have : m ≠ 0 := by omega
    exact_mod_cast this
  have key : ∀ E : Nat, (((E : Nat) : Int) : Rat) / (((M : Nat) : Int) : Rat) = (((E * m : Nat) : Int) : Rat) / (((M * m : Nat) : Int) : Rat) := fun E => by
    push_cast
    grind
  unfold ptOf
  rw [key E, key N]
theorem pow_step (k : Nat) : 100000 ^ (k + 1) = 100000 ^ k * 100000 := Nat.pow_succ ..
theorem TameAll.known {T : Places} (h : TameAll T) (n : Bytes) {x y : Nat} (hx : x ≤ 999999) (hy : y ≤ 999999) : TameAll (T ++ [(n, ((x : Rat), (y : Rat)))]) := by
  obtain ⟨M, hM, hl, ht⟩ := h
  refine ⟨M, hM, ?_, fun z hz => ?_⟩
  · rw [List.length_append, List.length_singleton, pow_step]
    omega
  · rcases List.mem_append.mp hz with q | q
    · exact ht z q
    · rw [List.mem_singleton.mp q]
      refine ⟨x * M, y * M, Nat.mul_le_mul_right M hx, Nat.mul_le_mul_right M hy, ?_⟩
      have e : ((x : Rat), (y : Rat)) = ptOf (x : Int) (y : Int) ((1 : Nat) : Int) := by
        unfold ptOf
        push_cast
        have : ∀ z : Rat, z / 1 = z := fun z => by grind
        rw [this, this]
      show ((x : Rat), (y : Rat)) = _
      rw [e, pt_scale x y M (by decide) hM, Nat.one_mul]
/-- on a line between its ends -/
theorem along_pt {E N E' N' M m c k : Nat} (hM : 0 < M) (hm : 0 < m) (hk : m = c + k) : along (ptOf (E : Int) (N : Int) (M : Int)) (ptOf (E' : Int) (N' : Int) (M : Int)) m (c : Int) 0 = ptOf ((E * k + E' * c : Nat) : Int) ((N * k + N' * c : Nat) : Int) ((M * m : Nat) : Int) := by
  have h1 : ((M : Nat) : Rat) ≠ 0 := by
    have : M ≠ 0 := by omega
    exact_mod_cast this
  have h2 : ((m : Nat) : Rat) ≠ 0 := by
    have : m ≠ 0 := by omega
    exact_mod_cast this
  have h3 : ((m : Nat) : Rat) = (c : Rat) + (k : Rat) := by rw [hk]; push_cast; rfl
  unfold along ptOf
  push_cast
  congr 1 <;> grind
theorem TameAll.on {T : Places} (h : TameAll T) (n : Bytes) {p q : Point} {a b : Bytes} {m c : Nat} (ha : (a, p) ∈ T) (hb : (b, q) ∈ T) (hm : 0 < m) (hm2 : m ≤ 100000) (hc : c ≤ m) : TameAll (T ++ [(n, along p q m (c : Int) 0)]) := by
  obtain ⟨M, hM, hl, ht⟩ := h
  refine ⟨M * m, Nat.mul_pos hM hm, ?_, fun z hz => ?_⟩
  · rw [List.length_append, List.length_singleton, pow_step]
    exact Nat.mul_le_mul hl hm2
  · rcases List.mem_append.mp hz with k | k
    · obtain ⟨E, N, h1, h2, h3⟩ := ht z k
      refine ⟨E * m, N * m, ?_, ?_, ?_⟩
      · rw [← Nat.mul_assoc]; exact Nat.mul_le_mul_right m h1
      · rw [← Nat.mul_assoc]; exact Nat.mul_le_mul_right m h2
      · rw [h3]; exact pt_scale E N m hM hm
    · rw [List.mem_singleton.mp k]
      obtain ⟨E, N, h1, h2, h3⟩ := ht _ ha
      obtain ⟨E', N', h1', h2', h3'⟩ := ht _ hb
      have h3 : p = _ := h3
      have h3' : q = _ := h3'
      obtain ⟨r, hr⟩ : ∃ r, m = c + r := ⟨m - c, by omega⟩
      refine ⟨E * r + E' * c, N * r + N' * c, ?_, ?_, ?_⟩
      · have a1 := Nat.mul_le_mul_right r h1
        have a2 := Nat.mul_le_mul_right c h1'
        have : 999999 * (M * m) = 999999 * M * r + 999999 * M * c := by rw [hr]; grind
        omega
      · have a1 := Nat.mul_le_mul_right r h2
        have a2 := Nat.mul_le_mul_right c h2'
        have : 999999 * (M * m) = 999999 * M * r + 999999 * M * c := by rw [hr]; grind
        omega
      · show along p q m (c : Int) 0 = _
        rw [h3, h3']
        exact along_pt hM hm hr
theorem TameAll.get {T : Places} (h : TameAll T) {n : Bytes} {p : Point} (hp : placeIn T n = some p) : Tame T.length p := by
  obtain ⟨M, hM, hl, ht⟩ := h
  obtain ⟨E, N, h1, h2, h3⟩ := ht _ (placeIn_mem hp)
  exact ⟨M, E, N, hM, hl, h1, h2, h3⟩
/-- a set told well -/
def WfS (s : Bytes × Set_) : Prop := match s.2 with
  | .known x y => x ≤ 999999 ∧ y ≤ 999999
  | .on _ _ m c => 0 < m ∧ m ≤ 100000 ∧ c ≤ m
theorem TameAll.placed {T : Places} (h : TameAll T) {s : Bytes × Set_} (hs : WfS s) : TameAll (placed T s) := by
  rcases placed_cases T s with e | ⟨hn, p, e, q⟩
  · rw [e]; exact h
  · rw [e]
    rcases q with ⟨x, y, q1, rfl⟩ | ⟨a, b, m, c, pa, pb, q1, q2, q3, rfl⟩
    · unfold WfS at hs
      rw [q1] at hs
      exact h.known s.1 hs.1 hs.2
    · unfold WfS at hs
      rw [q1] at hs
      exact h.on s.1 (placeIn_mem q2) (placeIn_mem q3) hs.1 hs.2.1 hs.2.2
theorem TameAll.fold : ∀ {l : Sets} {T : Places}, TameAll T → (∀ s ∈ l, WfS s) → TameAll (l.foldl LsChain.placed T)
  | [], _, h, _ => h
  | s :: l, _, h, w => TameAll.fold (l := l) (h.placed (w s (by simp))) fun x hx => w x (by simp [hx])
/-- the size of a station's numbers -/
theorem Tame.small {k : Nat} {p : Point} (h : Tame k p) (hk : k ≤ 64) {e n b : Int} (hb : 0 < b) (hg : Int.gcd n ((Int.gcd e b : Nat) : Int) = 1) (hp : p = ptOf e n b) : e.natAbs < 2 ^ 1100 ∧ n.natAbs < 2 ^ 1100 ∧ b.natAbs < 2 ^ 1100 := by
  obtain ⟨M, E, N, hM, hl, h1, h2, h3⟩ := h
  obtain ⟨d, q1, q2⟩ := low_dvd hb hg hM (hp.symm.trans h3)
  have mm : M ≤ 100000 ^ 64 := Nat.le_trans hl (Nat.pow_le_pow_right (by decide) hk)
  have big : 999999 * 100000 ^ 64 < 2 ^ 1100 := by decide +kernel
  have key : ∀ x : Int, ∀ X : Nat, X ≤ 999999 * M → x * (M : Int) = (X : Int) * b → x.natAbs ≤ 999999 * b.natAbs := fun x X hX q => by
    have a : x.natAbs * M = X * b.natAbs := by
      have := congrArg Int.natAbs q
      rw [Int.natAbs_mul, Int.natAbs_mul] at this
      simpa using this
    have : x.natAbs * M ≤ 999999 * b.natAbs * M := by
      rw [a]
      have := Nat.mul_le_mul_right b.natAbs hX
      have e : 999999 * M * b.natAbs = 999999 * b.natAbs * M := by grind
      omega
    exact Nat.le_of_mul_le_mul_right this hM
  have r1 := key e E h1 q1
  have r2 := key n N h2 q2
  omega
/-! ### the sets by knowns and stations -/
def knoOf (t : Told) : Bytes × Nat × Nat := match t with
  | .known n x y => (n, x, y)
  | _ => ([], 0, 0)
theorem told_known {t : Told} (h : isKnownT t = true) : t = .known (knoOf t).1 (knoOf t).2.1 (knoOf t).2.2 := by
  cases t with
  | known n x y => rfl
  | line a b m es => cases h
def setOfK (t : Told) : Bytes × Set_ := ((knoOf t).1, .known (knoOf t).2.1 (knoOf t).2.2)
def setOfP (p : LineT × Entry) : Bytes × Set_ := (mkName p.2.mark, .on p.1.1 p.1.2.1 p.1.2.2.1 p.2.at_)
theorem knowns_told (b : Book) : knownsOf b.sets = (b.told.filter isKnownT).map setOfK := by
  show (b.told.flatMap setsIn).filter isKnown = _
  induction b.told with
  | nil => rfl
  | cons t ts ih =>
    rw [List.flatMap_cons, List.filter_append, ih, List.filter_cons]
    cases t with
    | known n x y => rfl
    | line a c m es =>
      have : (setsIn (.line a c m es)).filter isKnown = [] := by
        rw [List.filter_eq_nil_iff]
        intro s hs
        obtain ⟨e, he, q⟩ := List.mem_filterMap.mp hs
        cases hm : e.mark <;> rw [hm] at q <;> simp at q
        rw [← q]
        simp [isKnown]
      rw [this]
      rfl
theorem hung_told (b : Book) : hungOf b.sets = ((entriesL b).filter fun p => mkKind p.2.mark == 0).map setOfP := by
  show (b.told.flatMap setsIn).filter isHung = (((b.told.filterMap lineOf).flatMap fun (l : LineT) => l.2.2.2.map fun e => (l, e)).filter fun p => mkKind p.2.mark == 0).map setOfP
  induction b.told with
  | nil => rfl
  | cons t ts ih =>
    rw [List.flatMap_cons, List.filter_append, ih]
    cases t with
    | known n x y => rfl
    | line a c m es =>
      rw [List.filterMap_cons_some (b := (a, c, m, es)) (by rfl), List.flatMap_cons, List.filter_append, List.map_append]
      congr 1
      show (es.filterMap _).filter isHung = ((es.map fun e => (((a, c, m, es) : LineT), e)).filter _).map setOfP
      generalize hL : ((a, c, m, es) : LineT) = L
      have hL1 : L.1 = a := by rw [← hL]
      have hL2 : L.2.1 = c := by rw [← hL]
      have hL3 : L.2.2.1 = m := by rw [← hL]
      clear hL
      induction es with
      | nil => rfl
      | cons e es ih =>
        rw [List.filterMap_cons, List.map_cons]
        cases hm : e.mark with
        | station n =>
          rw [List.filter_cons_of_pos (p := isHung) (by rfl), ih, List.filter_cons_of_pos (by show (mkKind e.mark == 0) = true; rw [hm]; rfl), List.map_cons]
          congr 1
          unfold setOfP
          rw [hm, hL1, hL2, hL3]
          rfl
        | tie n o => rw [List.filter_cons_of_neg (p := fun p : LineT × Entry => mkKind p.2.mark == 0) (by show ¬ (mkKind e.mark == 0) = true; rw [hm]; exact Bool.false_ne_true)]; exact ih
        | feature f o => rw [List.filter_cons_of_neg (p := fun p : LineT × Entry => mkKind p.2.mark == 0) (by show ¬ (mkKind e.mark == 0) = true; rw [hm]; exact Bool.false_ne_true)]; exact ih
theorem WfB.sets_wf {b : Book} (h : WfB b) : ∀ s ∈ b.sets, WfS s := fun s hs => by
  obtain ⟨t, ht, q⟩ := List.mem_flatMap.mp hs
  have w := h.told t ht
  cases t with
  | known n x y =>
    rw [show s = (n, .known x y) by simpa [setsIn] using q]
    exact ⟨w.2.1, w.2.2⟩
  | line a c m es =>
    obtain ⟨e, he, q⟩ := List.mem_filterMap.mp q
    have we := w.2.2.2.2 e he
    cases hm : e.mark <;> rw [hm] at q <;> simp at q
    rw [← q]
    exact ⟨w.2.2.1, w.2.2.2.1, we.1⟩
theorem hung_mem {b : Book} {p : LineT × Entry} (h : p ∈ (entriesL b).filter fun p => mkKind p.2.mark == 0) : setOfP p ∈ b.sets := by
  have : setOfP p ∈ hungOf b.sets := by
    rw [hung_told]
    exact List.mem_map_of_mem h
  exact (List.mem_filter.mp this).1
end CB
end
section
namespace CB
open LsText LsChain
theorem rounds_succ {l : Sets} : ∀ (n : Nat) (T : Places), rounds l (n + 1) T = l.foldl placed (rounds l n T)
  | 0, T => rfl
  | n + 1, T => by
    show rounds l (n + 1) (l.foldl placed T) = _
    exact rounds_succ n _
theorem TameAll.rounds {l : Sets} (hl : ∀ s ∈ l, WfS s) : ∀ {n : Nat} {T : Places}, TameAll T → TameAll (rounds l n T)
  | 0, _, h => h
  | n + 1, _, h => TameAll.rounds hl (n := n) (h.fold hl)
theorem Sound.len {S : Sets} {T : Places} (h : Sound S T) : T.length ≤ S.length := by
  have := List.Nodup.length_le_of_subset h.nd (fun n hn => h.sub n hn)
  rwa [List.length_map, List.length_map] at this
theorem take_fold {l : Sets} {i : Nat} {s : Bytes × Set_} (h : l[i]? = some s) (T : Places) : (l.take (i + 1)).foldl placed T = placed ((l.take i).foldl placed T) s := by
  rw [List.take_add_one, h, List.foldl_append]
  rfl
/-- what's placed of some of them has their names -/
theorem fresh_in {α : Type} {f : α → Bytes} {l : List α} {i : Nat} {x : α} (nd : (l.map f).Nodup) (h : l[i]? = some x) : f x ∉ (l.take i).map f := fun q => by
  obtain ⟨hi, e⟩ := List.getElem?_eq_some_iff.mp h
  have e2 : l = l.take i ++ x :: l.drop (i + 1) := by
    have := (List.take_append_drop i l).symm
    rw [List.drop_eq_getElem_cons hi, e] at this
    exact this
  rw [e2, List.map_append, List.map_cons] at nd
  exact (List.nodup_append.mp nd).2.2 _ q _ (by simp) rfl
theorem fold_fresh {l : Sets} {i : Nat} {s : Bytes × Set_} (nd : (l.map (·.1)).Nodup) (h : l[i]? = some s) : placeIn ((l.take i).foldl placed []) s.1 = none := by
  cases e : placeIn ((l.take i).foldl placed []) s.1 with
  | none => rfl
  | some p =>
    have so : Sound (l.take i) ((l.take i).foldl placed []) := (Sound.nil (l.take i)).fold (fun _ h => h)
    exact absurd (so.sub _ (List.mem_map_of_mem (f := (·.1)) (placeIn_mem e))) (fresh_in nd h)
theorem knowns_nd {b : Book} (h : (b.sets.map (·.1)).Nodup) : ((knownsOf b.sets).map (·.1)).Nodup := h.sublist (List.filter_sublist.map _)
theorem hung_nd {b : Book} (h : (b.sets.map (·.1)).Nodup) : ((hungOf b.sets).map (·.1)).Nodup := h.sublist (List.filter_sublist.map _)
def metS (b : Book) : List (LineT × Entry) := (entriesL b).filter fun p => mkKind p.2.mark == 0
theorem metS_nd {b : Book} (h : (b.sets.map (·.1)).Nodup) : ((metS b).map fun p => mkName p.2.mark).Nodup := by
  have := hung_nd h
  rw [hung_told, List.map_map] at this
  exact this
theorem kind_station {e : Entry} (h : mkKind e.mark = 0) : e.mark = .station (mkName e.mark) := by
  cases hm : e.mark with
  | station n => rfl
  | tie n o => rw [hm] at h; cases h
  | feature f o => rw [hm] at h; cases h
theorem metS_mem {b : Book} {p : LineT × Entry} (h : p ∈ metS b) : p.1 ∈ b.lines ∧ p.2 ∈ p.1.2.2.2 ∧ p.2.mark = .station (mkName p.2.mark) ∧ mkBes p.2.mark = 0 := by
  obtain ⟨h1, h2⟩ := List.mem_filter.mp h
  obtain ⟨h3, h4⟩ := mem_entries h1
  have k := kind_station (by simpa using h2)
  exact ⟨h3, h4, k, by rw [k]; rfl⟩
theorem WfB.pair {b : Book} (h : WfB b) {p : LineT × Entry} (h1 : p.1 ∈ b.lines) (h2 : p.2 ∈ p.1.2.2.2) : 0 < p.1.2.2.1 ∧ p.1.2.2.1 ≤ 100000 ∧ p.2.at_ ≤ p.1.2.2.1 ∧ (mkBes p.2.mark).natAbs ≤ 10000 := by
  obtain ⟨_, _, h3, h4, h5⟩ := h.line h1
  have h6 := h5 _ h2
  exact ⟨h3, h4, h6.1, h6.bes⟩
/-- on a station's line -/
theorem placed_on {T : Places} {p : LineT × Entry} : placed T (setOfP p) = if (placeIn T (mkName p.2.mark)).isSome = true then T else match placeIn T p.1.1, placeIn T p.1.2.1 with
    | some x, some y => T ++ [(mkName p.2.mark, along x y p.1.2.2.1 (p.2.at_ : Int) 0)]
    | _, _ => T := rfl
theorem placed_new {T : Places} {t : Told} (h : placeIn T (setOfK t).1 = none) : placed T (setOfK t) = T ++ [((knoOf t).1, (((knoOf t).2.1 : Rat), ((knoOf t).2.2 : Rat)))] := by
  unfold placed
  rw [h]
  rfl
theorem placed_at1 {T : Places} {p : LineT × Entry} (h : (placeIn T (mkName p.2.mark)).isSome = true) : placed T (setOfP p) = T := by
  rw [placed_on, if_pos h]
theorem placed_at2 {T : Places} {p : LineT × Entry} (h : (placeIn T (mkName p.2.mark)).isSome = false) (h2 : ((placeIn T p.1.1).isSome && (placeIn T p.1.2.1).isSome) = false) : placed T (setOfP p) = T := by
  rw [placed_on, if_neg (by rw [h]; decide)]
  cases e1 : placeIn T p.1.1 with
  | none => rfl
  | some x =>
    cases e2 : placeIn T p.1.2.1 with
    | none => rfl
    | some y => rw [e1, e2] at h2; cases h2
theorem placed_at3 {T : Places} {p : LineT × Entry} {x y : Point} (h : (placeIn T (mkName p.2.mark)).isSome = false) (h1 : placeIn T p.1.1 = some x) (h2 : placeIn T p.1.2.1 = some y) : placed T (setOfP p) = T ++ [(mkName p.2.mark, along x y p.1.2.2.1 (p.2.at_ : Int) 0)] := by
  rw [placed_on, if_neg (by rw [h]; decide), h1, h2]
theorem set_of_metS {b : Book} {p : LineT × Entry} (h : p ∈ metS b) : setOfP p ∈ b.sets := hung_mem h
theorem metS_of_set {b : Book} {n x y : Bytes} {m c : Nat} (h : (n, Set_.on x y m c) ∈ b.sets) : ∃ p ∈ metS b, setOfP p = (n, Set_.on x y m c) := by
  have : (n, Set_.on x y m c) ∈ hungOf b.sets := List.mem_filter.mpr ⟨h, rfl⟩
  rw [hung_told] at this
  obtain ⟨p, hp, e⟩ := List.mem_map.mp this
  exact ⟨p, hp, e⟩
end CB
end
section
namespace CB
open LsText LsChain
theorem diff_pt {e n d e' n' d' : Int} (h1 : 0 < d) (h2 : 0 < d') : ((e' * d - e * d' : Int) : Rat) / ((d * d' : Int) : Rat) = (ptOf e' n' d').1 - (ptOf e n d).1 ∧ ((n' * d - n * d' : Int) : Rat) / ((d * d' : Int) : Rat) = (ptOf e' n' d').2 - (ptOf e n d).2 := by
  have z1 := rat_ne h1
  have z2 := rat_ne h2
  unfold ptOf
  push_cast
  constructor <;> grind
theorem sq_pt {x y b : Int} (h : 0 < b) : ((x * x + y * y : Int) : Rat) / ((b * b : Int) : Rat) = square ((x : Rat) / (b : Rat), (y : Rat) / (b : Rat)) := by
  have z := rat_ne h
  unfold square
  push_cast
  grind
theorem stretch_pt {x y b : Int} {m u v : Nat} (h : 0 < b) (hm : 0 < m) (hu : 0 < u) (hv : 0 < v) : (((x * x + y * y) * (v : Int) * (v : Int) : Int) : Rat) / (((b * (m : Int) * (u : Int)) * (b * (m : Int) * (u : Int)) : Int) : Rat) =
    square ((x : Rat) / (b : Rat), (y : Rat) / (b : Rat)) / (((m : Rat) * ((u : Rat) / (v : Rat))) * ((m : Rat) * ((u : Rat) / (v : Rat)))) := by
  have z := rat_ne h
  have zm : ((m : Nat) : Rat) ≠ 0 := by
    have : m ≠ 0 := by omega
    exact_mod_cast this
  have zu : ((u : Nat) : Rat) ≠ 0 := by
    have : u ≠ 0 := by omega
    exact_mod_cast this
  have zv : ((v : Nat) : Rat) ≠ 0 := by
    have : v ≠ 0 := by omega
    exact_mod_cast this
  unfold square
  push_cast
  grind
theorem frac_nonneg {a b : Int} (ha : 0 ≤ a) (hb : 0 < b) : 0 ≤ ((a : Rat) / (b : Rat)).num := by
  rw [← frac_num a b hb]
  exact Int.ediv_nonneg ha (by omega)
/-! ### the worst of some -/
def wStep (far : Rat → Rat → Bool) (w : Option (Nat × Rat)) (x : Option Rat × Nat) : Option (Nat × Rat) := match w, x.1 with
  | none, some r => some (x.2, r)
  | some v, some r => if far r v.2 = true then some (x.2, r) else w
  | _, none => w
def wAt (far : Rat → Rat → Bool) (l : List (Option Rat)) (i : Nat) : Option (Nat × Rat) := (l.zipIdx.take i).foldl (wStep far) none
theorem wAt_succ {far : Rat → Rat → Bool} {l : List (Option Rat)} {i : Nat} {x : Option Rat} (h : l[i]? = some x) : wAt far l (i + 1) = wStep far (wAt far l i) (x, i) := by
  have e : l.zipIdx[i]? = some (x, i) := by
    rw [List.getElem?_zipIdx, h]
    simp
  unfold wAt
  rw [List.take_add_one, e, List.foldl_append]
  rfl
theorem wAt_end (far : Rat → Rat → Bool) (l : List (Option Rat)) : wAt far l l.length = worstBy far l := by
  unfold wAt
  rw [show l.length = l.zipIdx.length by simp, List.take_length]
  rfl
def wI : Option (Nat × Rat) → Int
  | none => -1
  | some w => (w.1 : Int)
def wR : Option (Nat × Rat) → Rat
  | none => 0
  | some w => w.2
theorem wStep_none {far : Rat → Rat → Bool} {w : Option (Nat × Rat)} {i : Nat} : wStep far w (none, i) = w := by cases w <;> rfl
theorem wStep_some {far : Rat → Rat → Bool} {w : Option (Nat × Rat)} {r : Rat} {i : Nat} : wStep far w (some r, i) = if (decide (wI w < 0) || far r (wR w)) = true then some (i, r) else w := by
  cases w with
  | none => rfl
  | some v =>
    have : decide (wI (some v) < 0) = false := by
      show decide ((v.1 : Int) < 0) = false
      rw [decide_eq_false_iff_not]
      omega
    rw [this, Bool.false_or]
    rfl
end CB
end
section
namespace CB
open LsText LsChain
def nmsB (b : Book) : List Bytes := b.sets.map (·.1)
def part (b : Book) (x y : Bytes) (m : Nat) (had : List Entry) : Book := ⟨b.unit, b.told ++ [.line x y m had]⟩
def markNames (e : Entry) : List Bytes := match e.mark with
  | .station n => [n]
  | _ => []
theorem sets_snoc (u : Option (Nat × Nat)) (ts : List Told) (t : Told) : nmsB ⟨u, ts ++ [t]⟩ = nmsB ⟨u, ts⟩ ++ setNames t := by
  unfold nmsB
  rw [sets_names, sets_names]
  show (ts ++ [t]).flatMap setNames = ts.flatMap setNames ++ setNames t
  rw [List.flatMap_append]
  simp
theorem nms_known (b : Book) (n : Bytes) (x y : Nat) : nmsB ⟨b.unit, b.told ++ [.known n x y]⟩ = nmsB b ++ [n] := sets_snoc _ _ _
theorem line_names (x y : Bytes) (m : Nat) (es : List Entry) : setNames (.line x y m es) = es.flatMap markNames := by
  rw [setNames_is]
  show (es.filterMap _).map _ = _
  induction es with
  | nil => rfl
  | cons e es ih =>
    rw [List.flatMap_cons, ← ih]
    unfold markNames
    cases hm : e.mark with
    | station n => rw [List.filterMap_cons_some (b := (n, Set_.on x y m e.at_)) (by rw [hm])]; rfl
    | tie n o => rw [List.filterMap_cons_none (by rw [hm])]; rfl
    | feature f o => rw [List.filterMap_cons_none (by rw [hm])]; rfl
theorem nms_part (b : Book) (x y : Bytes) (m : Nat) (had : List Entry) : nmsB (part b x y m had) = nmsB b ++ had.flatMap markNames := by
  unfold part
  rw [sets_snoc, line_names]
theorem nms_part_nil (b : Book) (x y : Bytes) (m : Nat) : nmsB (part b x y m []) = nmsB b := by
  rw [nms_part]
  simp
theorem nms_part_snoc (b : Book) (x y : Bytes) (m : Nat) (had : List Entry) (e : Entry) : nmsB (part b x y m (had ++ [e])) = nmsB (part b x y m had) ++ markNames e := by
  rw [nms_part, nms_part, List.flatMap_append, List.append_assoc]
  simp
theorem lines_snoc (u : Option (Nat × Nat)) (ts : List Told) (x y : Bytes) (m : Nat) (es : List Entry) : (Book.mk u (ts ++ [.line x y m es])).lines = (Book.mk u ts).lines ++ [(x, y, m, es)] := by
  show (ts ++ [Told.line x y m es]).filterMap lineOf = ts.filterMap lineOf ++ _
  rw [List.filterMap_append]
  rfl
theorem lines_known (u : Option (Nat × Nat)) (ts : List Told) (n : Bytes) (x y : Nat) : (Book.mk u (ts ++ [.known n x y])).lines = (Book.mk u ts).lines := by
  show (ts ++ [Told.known n x y]).filterMap lineOf = ts.filterMap lineOf
  rw [List.filterMap_append]
  simp [lineOf]
theorem part_lines (b : Book) (x y : Bytes) (m : Nat) (had : List Entry) : (part b x y m had).lines.length = b.lines.length + 1 := by
  unfold part
  rw [lines_snoc, List.length_append]
  rfl
theorem part_entries (b : Book) (x y : Bytes) (m : Nat) (had : List Entry) : (part b x y m had).entries = b.entries + had.length := by
  unfold part Book.entries
  rw [lines_snoc, List.map_append, List.sum_append]
  simp
theorem known_entries (b : Book) (n : Bytes) (x y : Nat) : (Book.mk b.unit (b.told ++ [.known n x y])).entries = b.entries := by
  unfold Book.entries
  rw [lines_known]
theorem beq_swap (a b : Bytes) : (a == b) = (b == a) := by
  by_cases h : a = b
  · rw [h]
  · rw [beq_eq_false_iff_ne.mpr h, beq_eq_false_iff_ne.mpr (fun z => h z.symm)]
theorem isSet_is (b : Book) (n : Bytes) : b.isSet n = (nmsB b).contains n := by
  unfold Book.isSet nmsB
  induction b.sets with
  | nil => rfl
  | cons s S ih =>
    rw [List.any_cons, List.map_cons, List.contains_cons, ih]
    congr 1
    exact beq_swap s.1 n
theorem nms_len (b : Book) : (nmsB b).length = b.sets.length := List.length_map _
/-! ### what is read gets shorter -/
theorem front_ne {l : List Token} (h : regular (front l).tok = true) : 0 < l.length := by
  cases l with
  | nil => cases h
  | cons a l => exact Nat.zero_lt_succ _
theorem drop_lt {l : List Token} (h : regular (front l).tok = true) : (l.drop 1).length < l.length := by
  have := front_ne h
  rw [List.length_drop]
  omega
theorem num_ok {lo hi n : Nat} {l r : List Token} (h : num lo hi l = .ok (n, r)) : (front l).tok = .num n ∧ lo ≤ n ∧ n ≤ hi ∧ r = l.drop 1 := by
  unfold num at h
  split at h
  · rename_i k e
    split at h
    · rename_i c
      cases h
      exact ⟨e, c.1, c.2, rfl⟩
    · cases h
  · cases h
theorem name_ok {n : Bytes} {l r : List Token} (h : name l = .ok (n, r)) : (front l).tok = .word n ∧ r = l.drop 1 := by
  unfold name at h
  split at h
  · rename_i w e
    split at h
    · cases h
    · cases h
      exact ⟨e, rfl⟩
  · cases h
theorem sign_ok {c : UInt8} {l r : List Token} (h : LsChain.sign c l = .ok r) : (front l).tok = .sign c ∧ r = l.drop 1 := by
  unfold LsChain.sign at h
  split at h
  · rename_i e
    cases h
    exact ⟨e, rfl⟩
  · cases h
theorem word_ok {w : String} {l r : List Token} (h : LsChain.word w l = .ok r) : (front l).tok = .word (ascii w) ∧ r = l.drop 1 := by
  unfold LsChain.word at h
  split at h
  · rename_i e
    cases h
    exact ⟨of_decide_eq_true e, rfl⟩
  · cases h
theorem newName_ok {b : Book} {n : Bytes} {l r : List Token} (h : newName b l = .ok (n, r)) : name l = .ok (n, r) ∧ b.sets.length < 64 ∧ n ∉ nmsB b := by
  unfold newName at h
  cases q : name l with
  | error e => rw [q] at h; cases h
  | ok v =>
    obtain ⟨k, s⟩ := v
    rw [q] at h
    simp only at h
    split at h
    · cases h
    · rename_i c
      split at h
      · cases h
      · rename_i c2
        cases h
        refine ⟨rfl, by have : ¬ 64 ≤ b.sets.length := c; omega, fun z => c2 ?_⟩
        rw [isSet_is]
        simpa using z
end CB
end
section
namespace CB
open LsText LsChain
theorem beside_le {l r : List Token} {o : Int} (h : beside l = .ok (o, r)) : r.length ≤ l.length := by
  have d1 : (l.drop 1).length ≤ l.length := by rw [List.length_drop]; omega
  have key : ∀ {n : Nat} {r : List Token}, num 1 10000 (l.drop 1) = .ok (n, r) → r.length ≤ l.length := fun {n r} q => by
    have := (num_ok q).2.2.2
    rw [this, List.length_drop]
    omega
  unfold beside at h
  split at h
  · cases q : num 1 BESIDE (l.drop 1) with
    | error e => rw [q] at h; cases h
    | ok v =>
      obtain ⟨n, s⟩ := v
      rw [q] at h
      cases h
      exact key q
  · split at h
    · cases q : num 1 BESIDE (l.drop 1) with
      | error e => rw [q] at h; cases h
      | ok v =>
        obtain ⟨n, s⟩ := v
        rw [q] at h
        cases h
        exact key q
    · cases h
      exact Nat.le_refl _
theorem entry_ok {b : Book} {x y : Bytes} {m : Nat} {had : List Entry} {l r : List Token} {e : Entry} (h : entry b x y m had l = .ok (e, r)) :
    r.length < l.length ∧ b.entries + had.length < 512 ∧ e.at_ ≤ m ∧ (match e.mark with
      | .station n => (∃ s, (front s).tok = .word n ∧ ∃ k, s = l.drop k) ∧ (part b x y m had).sets.length < 64 ∧ n ∉ nmsB (part b x y m had)
      | .tie n o => (∃ s, (front s).tok = .word n ∧ ∃ k, s = l.drop k) ∧ o.natAbs ≤ 10000
      | .feature f o => f ≤ 9999 ∧ o.natAbs ≤ 10000) := by
  have bes : ∀ {l r : List Token} {o : Int}, beside l = .ok (o, r) → o.natAbs ≤ 10000 := fun {l r o} h => by
    unfold beside at h
    split at h
    · cases q : num 1 BESIDE (l.drop 1) with
      | error e => rw [q] at h; cases h
      | ok v =>
        obtain ⟨n, s⟩ := v
        rw [q] at h
        cases h
        have : n ≤ 10000 := (num_ok q).2.2.1
        omega
    · split at h
      · cases q : num 1 BESIDE (l.drop 1) with
        | error e => rw [q] at h; cases h
        | ok v =>
          obtain ⟨n, s⟩ := v
          rw [q] at h
          cases h
          have : n ≤ 10000 := (num_ok q).2.2.1
          omega
      · cases h
        decide
  unfold entry at h
  cases q : num 0 MEASURE l with
  | error e => rw [q] at h; simp only at h; split at h <;> cases h
  | ok v =>
    obtain ⟨c, s⟩ := v
    rw [q] at h
    simp only at h
    obtain ⟨n1, n2, n3, n4⟩ := num_ok q
    have lt : s.length < l.length := by rw [n4]; exact drop_lt (by rw [n1]; rfl)
    split at h
    · cases h
    · rename_i c1
      have c1 : b.entries + had.length < 512 := by have : ¬ 512 ≤ b.entries + had.length := c1; omega
      split at h
      · cases h
      · rename_i c2
        have cm : c ≤ m := by
          have : ¬ m < c := fun z => c2 (.inl z)
          omega
        split at h
        · rename_i w1
          cases q2 : newName (part b x y m had) (s.drop 1) with
          | error e => rw [show newName ⟨b.unit, b.told ++ [.line x y m had]⟩ (s.drop 1) = .error e from q2] at h; cases h
          | ok v2 =>
            obtain ⟨n, u⟩ := v2
            rw [show newName ⟨b.unit, b.told ++ [.line x y m had]⟩ (s.drop 1) = .ok (n, u) from q2] at h
            cases h
            obtain ⟨k1, k2, k3⟩ := newName_ok q2
            obtain ⟨k4, k5⟩ := name_ok k1
            refine ⟨?_, c1, cm, ⟨_, k4, 2, by rw [n4, List.drop_drop]⟩, k2, k3⟩
            rw [k5, List.length_drop, List.length_drop]
            omega
        · split at h
          · cases q2 : name (s.drop 1) with
            | error e => rw [q2] at h; cases h
            | ok v2 =>
              obtain ⟨n, u⟩ := v2
              rw [q2] at h
              simp only at h
              obtain ⟨k4, k5⟩ := name_ok q2
              cases q3 : beside u with
              | error e => rw [q3] at h; cases h
              | ok v3 =>
                obtain ⟨o, w⟩ := v3
                rw [q3] at h
                cases h
                have := beside_le q3
                refine ⟨?_, c1, cm, ⟨_, k4, 2, by rw [n4, List.drop_drop]⟩, bes q3⟩
                rw [k5, List.length_drop, List.length_drop] at this
                omega
          · split at h
            · cases q2 : num 1 9999 (s.drop 1) with
              | error e => rw [q2] at h; cases h
              | ok v2 =>
                obtain ⟨n, u⟩ := v2
                rw [q2] at h
                simp only at h
                obtain ⟨_, k3, k4, k5⟩ := num_ok q2
                cases q3 : beside u with
                | error e => rw [q3] at h; cases h
                | ok v3 =>
                  obtain ⟨o, w⟩ := v3
                  rw [q3] at h
                  cases h
                  have := beside_le q3
                  refine ⟨?_, c1, cm, k4, bes q3⟩
                  rw [k5, List.length_drop, List.length_drop] at this
                  omega
            · cases h
/-- entries, up to what is no comma -/
def entsR (b : Book) (x y : Bytes) (m : Nat) : Nat → List Entry → List Token → Got (List Entry)
  | 0, _, l => stuck l
  | n + 1, had, l => match entry b x y m had l with
    | .error e => .error e
    | .ok (e, r) => if (front r).tok = .none_ then stuck r else if (front r).tok = .sign 44 then entsR b x y m n (had ++ [e]) (r.drop 1) else .ok (had ++ [e], r)
def contR (b : Book) (x y : Bytes) (m : Nat) (n : Nat) (had : List Entry) (r : List Token) : Got (List Entry) := if (front r).tok = .none_ then stuck r else if (front r).tok = .sign 44 then entsR b x y m n had (r.drop 1) else .ok (had, r)
theorem entsR_succ (b : Book) (x y : Bytes) (m n : Nat) (had : List Entry) (l : List Token) : entsR b x y m (n + 1) had l = match entry b x y m had l with
    | .error e => .error e
    | .ok (e, r) => contR b x y m n (had ++ [e]) r := rfl
theorem ents_is (b : Book) (x y : Bytes) (m : Nat) : ∀ (n : Nat) (had : List Entry) (l : List Token), entriesFrom b x y m n had l = match entsR b x y m n had l with
    | .error e => .error e
    | .ok (es, r) => if (front r).tok = .sign 59 then .ok (es, r) else stuck r
  | 0, had, l => rfl
  | n + 1, had, l => by
    rw [entsR_succ]
    unfold entriesFrom
    cases q : entry b x y m had l with
    | error e => rfl
    | ok v =>
      obtain ⟨e, r⟩ := v
      simp only
      unfold contR
      by_cases c0 : (front r).tok = .none_
      · rw [if_pos c0, c0, if_neg (by simp), if_neg (by simp)]
        rfl
      · rw [if_neg c0]
        by_cases c1 : (front r).tok = .sign 44
        · rw [if_pos c1, if_pos c1]
          exact ents_is b x y m n _ _
        · rw [if_neg c1, if_neg c1]
end CB
end
section
namespace CB
open LsText LsChain
/-! ### words are short -/
def W31 (l : List Token) : Prop := ∀ x ∈ l, ∀ w, x.tok = .word w → w.length ≤ 31
theorem W31.drop {l : List Token} (h : W31 l) (k : Nat) : W31 (l.drop k) := fun x hx w e => h x (List.mem_of_mem_drop hx) w e
theorem W31.front {l : List Token} (h : W31 l) {w : Bytes} (e : (front l).tok = .word w) : w.length ≤ 31 := by
  cases l with
  | nil => cases e
  | cons a l => exact h a (by simp) w e
theorem first_word (b : Bytes) (w : Bytes) (h : (first b).1 = .word w) : w.length ≤ 31 := by
  cases b with
  | nil => cases h
  | cons c r =>
    rw [first_cons] at h
    by_cases c1 : isLetter c = true
    · rw [if_pos c1] at h
      by_cases c2 : (c :: r.takeWhile isPart).length ≤ 31
      · rw [if_pos c2] at h
        cases h
        exact c2
      · rw [if_neg c2] at h
        cases h
    · rw [if_neg c1] at h
      by_cases c2 : isDigit c = true
      · rw [if_pos c2] at h
        by_cases c3 : 9 < (c :: r.takeWhile isDigit).length ∨ ((r.drop ((c :: r.takeWhile isDigit).length - 1)).head?.any isPart) = true
        · rw [if_pos c3] at h; cases h
        · rw [if_neg c3] at h; cases h
      · rw [if_neg c2] at h
        by_cases c3 : c = 34
        · rw [if_pos c3] at h
          by_cases c4 : (r.takeWhile isShown).length ≤ 40 ∧ (r.drop (r.takeWhile isShown).length).head? = some 34
          · rw [if_pos c4] at h; cases h
          · rw [if_neg c4] at h; cases h
        · rw [if_neg c3] at h
          by_cases c4 : isSign c = true
          · rw [if_pos c4] at h; cases h
          · rw [if_neg c4] at h; cases h
theorem tokens_w31 : ∀ (n p : Nat) (b : Bytes), W31 (tokensFrom n p b)
  | 0, p, b => fun x hx w e => by
    rw [show x = ⟨p, .over⟩ by simpa [tokensFrom] using hx] at e
    cases e
  | n + 1, p, b => fun x hx w e => by
    rcases reg_cases (first (b.drop (gap false b))).1 with h | h | h
    · rw [from_over h] at hx
      rw [List.mem_singleton.mp hx] at e
      cases e
    · rw [from_none h] at hx
      rw [List.mem_singleton.mp hx] at e
      cases e
    · rw [from_reg h] at hx
      rcases List.mem_cons.mp hx with q | q
      · rw [q] at e
        exact first_word _ w e
      · exact tokens_w31 n _ _ x q w e
theorem toks_w31 (t : Bytes) (p : Nat) : W31 (toks t p) := tokens_w31 _ _ _
/-! ### what is read keeps the bounds -/
structure Good (b : Book) (x y : Bytes) (m : Nat) (had : List Entry) : Prop where
  ent : ∀ e ∈ had, WfE m e
  nd : (nmsB (part b x y m had)).Nodup
  s64 : (part b x y m had).sets.length ≤ 64
  e512 : b.entries + had.length ≤ 512
theorem sets_len (b : Book) : b.sets.length = (nmsB b).length := (nms_len b).symm
theorem Good.step {b : Book} {x y : Bytes} {m : Nat} {had : List Entry} (g : Good b x y m had) {l r : List Token} {e : Entry} (w : W31 l) (h : entry b x y m had l = .ok (e, r)) : Good b x y m (had ++ [e]) := by
  obtain ⟨h1, h2, h3, h4⟩ := entry_ok h
  have ne := nms_part_snoc b x y m had e
  cases hm : e.mark with
  | station n =>
    rw [hm] at h4
    obtain ⟨⟨s, k1, k, rfl⟩, k2, k3⟩ := h4
    have mn : markNames e = [n] := by unfold markNames; rw [hm]
    rw [mn] at ne
    refine ⟨fun z hz => ?_, ?_, ?_, ?_⟩
    · rcases List.mem_append.mp hz with q | q
      · exact g.ent z q
      · rw [List.mem_singleton.mp q]
        refine ⟨h3, ?_⟩
        rw [hm]
        exact (w.drop k).front k1
    · rw [ne]
      exact List.nodup_append.mpr ⟨g.nd, by simp, fun a ha c hc e => k3 (by rw [← List.mem_singleton.mp hc, ← e]; exact ha)⟩
    · rw [sets_len, ne, List.length_append, List.length_singleton, ← sets_len]
      omega
    · rw [List.length_append, List.length_singleton]
      omega
  | tie n o =>
    rw [hm] at h4
    obtain ⟨⟨s, k1, k, rfl⟩, k2⟩ := h4
    have mn : markNames e = [] := by unfold markNames; rw [hm]
    rw [mn, List.append_nil] at ne
    refine ⟨fun z hz => ?_, by rw [ne]; exact g.nd, by rw [sets_len, ne, ← sets_len]; exact g.s64, by rw [List.length_append, List.length_singleton]; omega⟩
    rcases List.mem_append.mp hz with q | q
    · exact g.ent z q
    · rw [List.mem_singleton.mp q]
      refine ⟨h3, ?_⟩
      rw [hm]
      exact ⟨(w.drop k).front k1, k2⟩
  | feature f o =>
    rw [hm] at h4
    have mn : markNames e = [] := by unfold markNames; rw [hm]
    rw [mn, List.append_nil] at ne
    refine ⟨fun z hz => ?_, by rw [ne]; exact g.nd, by rw [sets_len, ne, ← sets_len]; exact g.s64, by rw [List.length_append, List.length_singleton]; omega⟩
    rcases List.mem_append.mp hz with q | q
    · exact g.ent z q
    · rw [List.mem_singleton.mp q]
      refine ⟨h3, ?_⟩
      rw [hm]
      exact h4
theorem entry_rest {b : Book} {x y : Bytes} {m : Nat} {had : List Entry} {l r : List Token} {e : Entry} (w : W31 l) (h : entry b x y m had l = .ok (e, r)) : W31 r := by
  have bes : ∀ {l r : List Token} {o : Int}, W31 l → beside l = .ok (o, r) → W31 r := fun {l r o} w h => by
    unfold beside at h
    split at h
    · cases q : num 1 BESIDE (l.drop 1) with
      | error e => rw [q] at h; cases h
      | ok v =>
        obtain ⟨n, s⟩ := v
        rw [q] at h
        cases h
        rw [(num_ok q).2.2.2]
        exact (w.drop 1).drop 1
    · split at h
      · cases q : num 1 BESIDE (l.drop 1) with
        | error e => rw [q] at h; cases h
        | ok v =>
          obtain ⟨n, s⟩ := v
          rw [q] at h
          cases h
          rw [(num_ok q).2.2.2]
          exact (w.drop 1).drop 1
      · cases h
        exact w
  unfold entry at h
  cases q : num 0 MEASURE l with
  | error e => rw [q] at h; simp only at h; split at h <;> cases h
  | ok v =>
    obtain ⟨c, s⟩ := v
    rw [q] at h
    simp only at h
    have ws : W31 s := by
      rw [(num_ok q).2.2.2]
      exact w.drop 1
    split at h
    · cases h
    · split at h
      · cases h
      · split at h
        · cases q2 : newName (part b x y m had) (s.drop 1) with
          | error e => rw [show newName ⟨b.unit, b.told ++ [.line x y m had]⟩ (s.drop 1) = .error e from q2] at h; cases h
          | ok v2 =>
            obtain ⟨n, u⟩ := v2
            rw [show newName ⟨b.unit, b.told ++ [.line x y m had]⟩ (s.drop 1) = .ok (n, u) from q2] at h
            cases h
            rw [(name_ok (newName_ok q2).1).2]
            exact (ws.drop 1).drop 1
        · split at h
          · cases q2 : name (s.drop 1) with
            | error e => rw [q2] at h; cases h
            | ok v2 =>
              obtain ⟨n, u⟩ := v2
              rw [q2] at h
              simp only at h
              cases q3 : beside u with
              | error e => rw [q3] at h; cases h
              | ok v3 =>
                obtain ⟨o, z⟩ := v3
                rw [q3] at h
                cases h
                refine bes ?_ q3
                rw [(name_ok q2).2]
                exact (ws.drop 1).drop 1
          · split at h
            · cases q2 : num 1 9999 (s.drop 1) with
              | error e => rw [q2] at h; cases h
              | ok v2 =>
                obtain ⟨n, u⟩ := v2
                rw [q2] at h
                simp only at h
                cases q3 : beside u with
                | error e => rw [q3] at h; cases h
                | ok v3 =>
                  obtain ⟨o, z⟩ := v3
                  rw [q3] at h
                  cases h
                  refine bes ?_ q3
                  rw [(num_ok q2).2.2.2]
                  exact (ws.drop 1).drop 1
            · cases h
theorem entsR_good {b : Book} {x y : Bytes} {m : Nat} : ∀ (n : Nat) (had : List Entry) (l : List Token) (es : List Entry) (r : List Token), Good b x y m had → W31 l → entsR b x y m n had l = .ok (es, r) → Good b x y m es ∧ r.length < l.length
  | 0, had, l, es, r, _, _, h => by cases h
  | n + 1, had, l, es, r, g, w, h => by
    rw [entsR_succ] at h
    cases q : entry b x y m had l with
    | error e => rw [q] at h; cases h
    | ok v =>
      obtain ⟨e, s⟩ := v
      rw [q] at h
      simp only at h
      have g2 := g.step w q
      have lt := (entry_ok q).1
      unfold contR at h
      split at h
      · cases h
      · split at h
        · rename_i c
          obtain ⟨g3, l3⟩ := entsR_good n _ _ es r g2 ((entry_rest w q).drop 1) h
          refine ⟨g3, ?_⟩
          rw [List.length_drop] at l3
          omega
        · cases h
          exact ⟨g2, lt⟩
theorem WfB.known {b : Book} (h : WfB b) {l r : List Token} {c : Book} (w : W31 l) (q : knownIn b l = .ok (c, r)) : ∃ n i j, c = ⟨b.unit, b.told ++ [.known n i j]⟩ ∧ WfB c ∧ r.length < l.length := by
  unfold knownIn at q
  cases q1 : newName b l with
  | error e => rw [q1] at q; cases q
  | ok v1 =>
    obtain ⟨n, r1⟩ := v1
    rw [q1] at q
    simp only at q
    obtain ⟨k1, k2, k3⟩ := newName_ok q1
    obtain ⟨k4, k5⟩ := name_ok k1
    cases q2 : LsChain.word "at" r1 with
    | error e => rw [q2] at q; cases q
    | ok r2 =>
      rw [q2] at q
      simp only at q
      have e2 := (word_ok q2).2
      cases q3 : num 0 999999 r2 with
      | error e => rw [q3] at q; cases q
      | ok v3 =>
        obtain ⟨i, r3⟩ := v3
        rw [q3] at q
        simp only at q
        obtain ⟨_, _, j1, e3⟩ := num_ok q3
        cases q4 : num 0 999999 r3 with
        | error e => rw [q4] at q; cases q
        | ok v4 =>
          obtain ⟨j, r4⟩ := v4
          rw [q4] at q
          simp only at q
          obtain ⟨_, _, j2, e4⟩ := num_ok q4
          cases q5 : LsChain.sign 59 r4 with
          | error e => rw [q5] at q; cases q
          | ok r5 =>
            rw [q5] at q
            cases q
            have e5 := (sign_ok q5).2
            have lt := front_ne (l := l) (by rw [k4]; rfl)
            refine ⟨n, i, j, rfl, ?_, by rw [e5, e4, e3, e2, k5]; simp only [List.length_drop]; omega⟩
            have nk := nms_known b n i j
            refine ⟨h.unit, fun t ht => ?_, ?_, ?_, ?_, ?_⟩
            · rcases List.mem_append.mp ht with z | z
              · exact h.told t z
              · rw [List.mem_singleton.mp z]
                exact ⟨w.front k4, j1, j2⟩
            · show (nmsB _).Nodup
              rw [nk]
              exact List.nodup_append.mpr ⟨h.nd, by simp, fun a ha c hc e => k3 (by rw [← List.mem_singleton.mp hc, ← e]; exact ha)⟩
            · rw [sets_len, nk, List.length_append, List.length_singleton, ← sets_len]
              omega
            · rw [lines_known]
              exact h.l64
            · rw [known_entries]
              exact h.e512
theorem WfB.addLine {b : Book} (h : WfB b) {x y : Bytes} {m : Nat} {es : List Entry} (g : Good b x y m es) (hx : x.length ≤ 31) (hy : y.length ≤ 31) (hm : 0 < m ∧ m ≤ 100000) (hl : b.lines.length < 64) : WfB (part b x y m es) := by
  refine ⟨h.unit, fun t ht => ?_, g.nd, g.s64, ?_, ?_⟩
  · rcases List.mem_append.mp ht with z | z
    · exact h.told t z
    · rw [List.mem_singleton.mp z]
      exact ⟨hx, hy, hm.1, hm.2, g.ent⟩
  · rw [part_lines]
    omega
  · rw [part_entries]
    exact g.e512
theorem WfB.good {b : Book} (h : WfB b) (x y : Bytes) (m : Nat) : Good b x y m [] := by
  refine ⟨fun e he => absurd he (by simp), ?_, ?_, h.e512⟩
  · rw [nms_part_nil]
    exact h.nd
  · rw [sets_len, nms_part_nil, ← sets_len]
    exact h.s64
theorem WfB.line_ {b : Book} (h : WfB b) {l r : List Token} {c : Book} (w : W31 l) (hl : b.lines.length < 64) (q : lineIn b l = .ok (c, r)) : ∃ x y m es, c = part b x y m es ∧ WfB c ∧ r.length < l.length := by
  unfold lineIn at q
  cases q1 : name l with
  | error e => rw [q1] at q; cases q
  | ok v1 =>
    obtain ⟨x, r1⟩ := v1
    rw [q1] at q
    simp only at q
    obtain ⟨k4, k5⟩ := name_ok q1
    have lt := front_ne (l := l) (by rw [k4]; rfl)
    have w1 : W31 r1 := by rw [k5]; exact w.drop 1
    cases q2 : LsChain.word "to" r1 with
    | error e => rw [q2] at q; cases q
    | ok r2 =>
      rw [q2] at q
      simp only at q
      have e2 := (word_ok q2).2
      have w2 : W31 r2 := by rw [e2]; exact w1.drop 1
      cases q3 : name r2 with
      | error e => rw [q3] at q; cases q
      | ok v3 =>
        obtain ⟨y, r3⟩ := v3
        rw [q3] at q
        simp only at q
        obtain ⟨k6, e3⟩ := name_ok q3
        have w3 : W31 r3 := by rw [e3]; exact w2.drop 1
        split at q
        · cases q
        · cases q4 : LsChain.word "measures" r3 with
          | error e => rw [q4] at q; cases q
          | ok r4 =>
            rw [q4] at q
            simp only at q
            have e4 := (word_ok q4).2
            have w4 : W31 r4 := by rw [e4]; exact w3.drop 1
            cases q5 : num 1 MEASURE r4 with
            | error e => rw [q5] at q; cases q
            | ok v5 =>
              obtain ⟨m, r5⟩ := v5
              rw [q5] at q
              simp only at q
              obtain ⟨_, m1, m2, e5⟩ := num_ok q5
              have w5 : W31 r5 := by rw [e5]; exact w4.drop 1
              have len5 : r5.length < l.length := by rw [e5, e4, e3, e2, k5]; simp only [List.length_drop]; omega
              split at q
              · cases q
                refine ⟨x, y, m, [], rfl, h.addLine (h.good x y m) (w.front k4) (w2.front k6) ⟨by omega, m2⟩ hl, ?_⟩
                rw [List.length_drop]
                omega
              · cases q6 : LsChain.sign 58 r5 with
                | error e => rw [q6] at q; cases q
                | ok r6 =>
                  rw [q6] at q
                  simp only at q
                  have e6 := (sign_ok q6).2
                  rw [ents_is] at q
                  cases q7 : entsR b x y m r6.length [] r6 with
                  | error e => rw [q7] at q; cases q
                  | ok v7 =>
                    obtain ⟨es, r7⟩ := v7
                    rw [q7] at q
                    simp only at q
                    obtain ⟨g7, l7⟩ := entsR_good _ _ _ es r7 (h.good x y m) (by rw [e6]; exact w5.drop 1) q7
                    by_cases c7 : (front r7).tok = .sign 59
                    · rw [if_pos c7] at q
                      cases q
                      refine ⟨x, y, m, es, rfl, h.addLine g7 (w.front k4) (w2.front k6) ⟨by omega, m2⟩ hl, ?_⟩
                      rw [List.length_drop]
                      rw [e6, List.length_drop] at l7
                      omega
                    · rw [if_neg c7] at q
                      cases q
theorem WfB.unit_ {b : Book} (h : WfB b) {l r : List Token} {c : Book} (q : unitIn b l = .ok (c, r)) : ∃ u v, c = ⟨some (u, v), b.told⟩ ∧ WfB c ∧ r.length < l.length := by
  unfold unitIn at q
  cases q1 : num 1 1000000 l with
  | error e => rw [q1] at q; cases q
  | ok v1 =>
    obtain ⟨u, r1⟩ := v1
    rw [q1] at q
    simp only at q
    obtain ⟨k0, k1, k2, e1⟩ := num_ok q1
    have lt := front_ne (l := l) (by rw [k0]; rfl)
    cases q2 : LsChain.sign 47 r1 with
    | error e => rw [q2] at q; cases q
    | ok r2 =>
      rw [q2] at q
      simp only at q
      have e2 := (sign_ok q2).2
      cases q3 : num 1 1000000 r2 with
      | error e => rw [q3] at q; cases q
      | ok v3 =>
        obtain ⟨v, r3⟩ := v3
        rw [q3] at q
        simp only at q
        obtain ⟨_, k3, k4, e3⟩ := num_ok q3
        cases q4 : LsChain.sign 59 r3 with
        | error e => rw [q4] at q; cases q
        | ok r4 =>
          rw [q4] at q
          cases q
          have e4 := (sign_ok q4).2
          refine ⟨u, v, rfl, ⟨fun z hz => ?_, h.told, h.nd, h.s64, h.l64, h.e512⟩, by rw [e4, e3, e2, e1]; simp only [List.length_drop]; omega⟩
          cases hz
          exact ⟨by omega, by omega, by omega, by omega⟩
end CB
end
section
namespace CB
open LsText LsChain
theorem tokens_len : ∀ (n p : Nat) (b : Bytes), (tokensFrom n p b).length ≤ b.length + 1
  | 0, p, b => by
    show 1 ≤ _
    omega
  | n + 1, p, b => by
    rcases reg_cases (first (b.drop (gap false b))).1 with h | h | h
    · rw [from_over h]
      show 1 ≤ _
      omega
    · rw [from_none h]
      show 1 ≤ _
      omega
    · rw [from_reg h, List.length_cons]
      have ih := tokens_len n (p + gap false b + (first (b.drop (gap false b))).2) ((b.drop (gap false b)).drop (first (b.drop (gap false b))).2)
      have pos := first_len _ h
      have ne : 0 < (b.drop (gap false b)).length := by
        cases q : b.drop (gap false b) with
        | nil => rw [q] at h; cases h
        | cons c r => exact Nat.zero_lt_succ _
      rw [List.length_drop] at ih
      have : (b.drop (gap false b)).length ≤ b.length := by rw [List.length_drop]; omega
      omega
theorem toks0_le (t : Bytes) : (toks t 0).length ≤ t.length + 1 := tokens_len _ _ _
def NU (c : Book) (l : List Token) : Prop := ¬ (isWord "unit" l = true ∧ c.unit = none ∧ c.told = [])
theorem sent_over {n : Nat} {c : Book} {l : List Token} (h : (front l).tok = .over) : sentences (n + 1) c l = .ok c := if_pos h
theorem sent_unit {n : Nat} {c : Book} {l : List Token} (h : isWord "unit" l = true ∧ c.unit = none ∧ c.told = []) : sentences (n + 1) c l = match unitIn c (l.drop 1) with
      | .error e => .error e
      | .ok (d, r) => sentences n d r := by
  have no : (front l).tok ≠ .over := fun z => by
    have : isWord "unit" l = decide ((front l).tok = .word (ascii "unit")) := rfl
    rw [this, z] at h
    simp at h
  exact (if_neg no).trans (if_pos h)
theorem sent_known {n : Nat} {c : Book} {l : List Token} (u : NU c l) (h : isWord "known" l = true) : sentences (n + 1) c l = match knownIn c (l.drop 1) with
      | .error e => .error e
      | .ok (d, r) => sentences n d r := by
  have no : (front l).tok ≠ .over := fun z => by
    have : isWord "known" l = decide ((front l).tok = .word (ascii "known")) := rfl
    rw [this, z] at h
    simp at h
  exact (if_neg no).trans ((if_neg u).trans (if_pos h))
end CB
end
section
set_option Elab.async false
set_option linter.all false
set_option maxRecDepth 100000
set_option maxHeartbeats 4000000
namespace CB
open PySem PySem.Spec PyProof.Rows L2
/-! ### answers in short -/
/-- a new tuple | a new list; all that was tracked stands -/
def RetT (xs : List V) (H : Hp) (Q : VK) : Prop := ∀ p H2, H p = none → Same H H2 → H2 p = some (.tup xs) → Q (.ref p) H2
def RetL (xs : List V) (H : Hp) (Q : VK) : Prop := ∀ p H2, H p = none → Same H H2 → H2 p = some (.lst xs) → Q (.ref p) H2
theorem same_upd {H : Hp} {p : Addr} {o : HO} (h : H p = none) : Same H (upd H p o) := fun b u e => by
  rw [upd_ne (ne_of_none e h)]
  exact e
theorem same_upd2 {H H' : Hp} {p : Addr} {o : HO} (s : Same H H') (h : H' p = none) : Same H (upd H' p o) := fun b u e => by
  have := s b u e
  rw [upd_ne (ne_of_none this h)]
  exact this
theorem RetT.go {xs : List V} {H H' : Hp} {Q : VK} {p : Addr} (k : RetT xs H Q) (s : Same H H') (h : H' p = none) : Q (.ref p) (upd H' p (.tup xs)) := k p _ (s.free h) (same_upd2 s h) upd_same
theorem RetL.go {xs : List V} {H H' : Hp} {Q : VK} {p : Addr} (k : RetL xs H Q) (s : Same H H') (h : H' p = none) : Q (.ref p) (upd H' p (.lst xs)) := k p _ (s.free h) (same_upd2 s h) upd_same
theorem RetT.mono {xs : List V} {H H' : Hp} {Q : VK} (k : RetT xs H Q) (s : Same H H') : RetT xs H' Q := fun p H2 h s2 e => k p H2 (s.free h) (s.trans s2) e
theorem RetL.mono {xs : List V} {H H' : Hp} {Q : VK} (k : RetL xs H Q) (s : Same H H') : RetL xs H' Q := fun p H2 h s2 e => k p H2 (s.free h) (s.trans s2) e
/-- a whole number of so few bits -/
def Sm (k : Nat) (i : Int) : Prop := i.natAbs < 2 ^ k
theorem Sm.le {j k : Nat} {i : Int} (h : Sm j i) (l : j ≤ k) : Sm k i := Nat.lt_of_lt_of_le h (Nat.pow_le_pow_right (by decide) l)
theorem Sm.mul {j k : Nat} {a b : Int} (h : Sm j a) (h' : Sm k b) : Sm (j + k) (a * b) := wide_lt h h'
theorem Sm.add {k : Nat} {a b : Int} (h : Sm k a) (h' : Sm k b) : Sm (k + 1) (a + b) := by
  unfold Sm at *
  rw [Nat.pow_succ]
  have := Int.natAbs_add_le a b
  omega
theorem Sm.sub {k : Nat} {a b : Int} (h : Sm k a) (h' : Sm k b) : Sm (k + 1) (a - b) := by
  unfold Sm at *
  rw [Nat.pow_succ]
  have := Int.natAbs_sub_le a b
  omega
theorem Sm.of_le {k : Nat} {a b : Int} (h : a.natAbs ≤ b.natAbs) (h' : Sm k b) : Sm k a := Nat.lt_of_le_of_lt h h'
theorem Sm.cmul {j k : Nat} {a b : Int} (h : Sm j a) (h' : Sm k b) (l : j + k ≤ 999990 := by decide) : CMulW a b := by
  refine wide_mul (a := j + 1) (b := k + 1) (h.le (Nat.le_succ _)) (h'.le (Nat.le_succ _)) (Nat.succ_pos _) (Nat.succ_pos _) (by omega)
theorem sm_div {k : Nat} {j : Int} (h : 0 < j) (hb : Sm k j) (h9 : k ≤ 8999 := by decide) : CDivW 0 j := wide_div (b := k + 1) h (hb.le (Nat.le_succ _)) (Nat.succ_pos _) (by omega)
theorem sm_divW {k : Nat} {i j : Int} (h : 0 < j) (hb : Sm k j) (h9 : k ≤ 8999 := by decide) : CDivW i j := sm_div h hb h9
/-! ### fractions -/
def fracV (q : Rat) : List V := [.int q.num, .int (q.den : Int)]
def spGcd : Sp := sp2 fun x y H Q _ => ∃ a b : Int, x = .int a ∧ y = .int b ∧ 0 < b ∧ Q (.int ((Int.gcd a b : Nat) : Int)) H
def spLowest : Sp := sp2 fun x y H Q _ => ∃ a b : Int, x = .int a ∧ y = .int b ∧ 0 < b ∧ Sm 8999 b ∧ RetT (fracV ((a : Rat) / (b : Rat))) H Q
def spIsLess (K : PySem.W.Frag) : Sp := sp2 fun x y H Q _ => ∃ (a b : Addr) (p q : Rat), x = .ref a ∧ y = .ref b ∧ SqT K H a (fracV p) ∧ SqT K H b (fracV q) ∧ (Sm 9000 p.num ∧ Sm 9000 p.den ∧ Sm 9000 q.num ∧ Sm 9000 q.den) ∧ Q (.bl (decide (p < q))) H
/-- a fraction above 0 or 1 by it, whichever is more -/
def upOf (q : Rat) : Rat := if q < 1 then 1 / q else q
def spTurned (K : PySem.W.Frag) : Sp := sp1 fun x H Q _ => ∃ (a : Addr) (q : Rat), x = .ref a ∧ SqT K H a (fracV q) ∧ 0 < q.num ∧ RetT (fracV (upOf q)) H Q
def spNearest (K : PySem.W.Frag) : Sp := sp1 fun x H Q _ => ∃ (a : Addr) (q : Rat), x = .ref a ∧ SqT K H a (fracV q) ∧ (Sm 8000 q.num ∧ Sm 8000 q.den) ∧ Q (.int (LsChain.nearest q)) H
section
variable {P : Program} {w : World} {K : PySem.W.Frag} {mg : Str → Option Value} {base : Heap}
theorem start_eq {N : List Str} {vs : List V} : start N vs = vs.map some ++ List.replicate (N.length - vs.length) none := rfl
theorem ok_common_divisor (T : Txt K mg) : Ok P w K mg base CX0 1 ("common_divisor", none) ["first", "second"] spGcd := by
  refine mk_ok T 17 rfl sc_common_divisor T.g_common_divisor (fun _ _ _ _ _ _ us hl => match us, hl with | [_, _], _ => rfl) len2 (fun cdv A outer s H vs Q E hr h => ?_)
  refine ⟨_, (pss_cons (ps_set (i := 2) sc_common_divisor.nd rfl (Or.inl rfl) (pe_callB call_abs (by rfl) T.n_abs (by decide +kernel) (pa_cons (pv 0) pa_nil)))
      (pss_cons (ps_set (i := 3) sc_common_divisor.nd rfl (Or.inl rfl) (pv 1))
      (pss_cons (ps_while PassesOwn.never (pt_cmpR op_ne (pv 3) pe_int (nomark _)) (pss_one (ps_par (i := 2) (j := 3) (by rfl) sc_common_divisor.nd rfl rfl (by decide) rfl rfl (pa_cons (pv 3) (pa_cons (pe_op op_modN (pv 2) (pv 3)) pa_nil)) (by rfl))))
      (pss_one (ps_ret (pv 2)))))), ?_⟩
  obtain ⟨x0, x1, rfl, h⟩ := h
  obtain ⟨a, b, rfl, rfl, hb, h⟩ := h
  refine ⟨_, rfl, a, rfl, _, rfl, ?_⟩
  have e0 : (if a < 0 then -a else a) = ((a.natAbs : Nat) : Int) := by split <;> omega
  refine ⟨fun m σ H' => ∃ g : Nat, σ = [some (.int a), some (.int b), some (.int g), some (.int m)] ∧ H' = H ∧ Nat.gcd g m = Int.gcd a b, ⟨b.toNat, a.natAbs, ?_, rfl, ?_⟩, ?_⟩
  · show [_, _, some (V.int (if a < 0 then -a else a)), some (V.int b)] = _
    rw [e0, Int.toNat_of_nonneg (by omega)]
  · unfold Int.gcd
    rw [show b.toNat = b.natAbs by omega]
  · rintro m σ H' ⟨g, rfl, rfl, e⟩
    refine ⟨_, rfl, rfl, _, rfl, ?_⟩
    by_cases hs : (m : Int) = 0
    · have hd : decide (V.int (m : Int) = V.int 0) = true := decide_eq_true (congrArg V.int hs)
      rw [hd]
      refine iteF ?_
      refine ⟨_, rfl, ?_⟩
      have hz : m = 0 := by omega
      subst hz
      rw [Nat.gcd_zero_right] at e
      rw [e]
      exact h
    · have hd : decide (V.int (m : Int) = V.int 0) = false := decide_eq_false fun q => hs (V.int.inj q)
      rw [hd]
      refine iteT ?_
      refine ⟨fun σ' H'' => σ' = [some (.int a), some (.int b), some (.int m), some (.int (g % m : Nat))] ∧ H'' = H', ?_, ?_⟩
      · rintro σ' H'' ⟨rfl, rfl⟩
        exact ⟨g % m, Nat.mod_lt _ (by omega), m, rfl, rfl, (gcd_step g m).trans e⟩
      · refine ⟨_, rfl, _, rfl, _, rfl, _, _, rfl, rfl, hs, _, _, rfl, ?_⟩
        refine ⟨?_, rfl⟩
        show [_, _, some (V.int (m : Int)), some (V.int (Int.fmod (g : Int) (m : Int)))] = _
        rw [fmod_nat]
theorem ok_lowest (T : Txt K mg) : Ok P w K mg base CX0 2 ("lowest", none) ["above", "below"] spLowest := by
  refine mk_ok T 18 rfl sc_lowest T.g_lowest (fun _ _ _ _ _ _ us hl => match us, hl with | [_, _], _ => rfl) len2 (fun cdv A outer s H vs Q E hr h => ?_)
  refine ⟨_, (pss_cons (ps_set (i := 2) sc_lowest.nd rfl (Or.inl rfl) (pe_c (ok_common_divisor T) hr (pa_cons (pv 0) (pa_cons (pv 1) pa_nil))))
      (pss_one (ps_ret (pe_tup (pa_cons (pe_op op_fdivW (pv 0) (pv 2)) (pa_cons (pe_op op_fdivW (pv 1) (pv 2)) pa_nil)))))), ?_⟩
  obtain ⟨x0, x1, rfl, h⟩ := h
  obtain ⟨a, b, rfl, rfl, hb, hs, h⟩ := h
  refine ⟨_, rfl, _, rfl, _, _, rfl, a, b, rfl, rfl, hb, ?_⟩
  have hg := gcd_pos (a := a) hb
  have hc : ∀ i, CDivW i ((Int.gcd a b : Nat) : Int) := fun i => sm_divW (k := 8999) (by omega) (Sm.of_le (by have := gcd_le (a := a) hb; omega) hs)
  refine ⟨_, rfl, _, rfl, _, _, rfl, rfl, hc _, _, rfl, _, rfl, _, _, rfl, rfl, hc _, (by show 2 ≤ sizeLine; decide), fun p hp => ?_⟩
  show Q (.ref p) (upd H p (.tup [.int (a / _), .int (b / _)]))
  rw [frac_num a b hb, frac_den a b hb]
  exact h.go (Same.refl _) hp
theorem atI0 {x y : V} {r : List V} : atI (x :: y :: r) 0 = some x := atI_nat (j := 0) rfl
theorem atI1 {x y : V} {r : List V} : atI (x :: y :: r) 1 = some y := by
  refine atI_nat (j := 1) rfl
theorem ok_is_less (T : Txt K mg) : Ok P w K mg base CX0 1 ("is_less", none) ["one", "other"] (spIsLess K) := by
  refine mk_ok T 19 rfl sc_is_less T.g_is_less (fun _ _ _ _ _ _ us hl => match us, hl with | [_, _], _ => rfl) len2 (fun cdv A outer s H vs Q E hr h => ?_)
  refine ⟨_, (pss_one (ps_ret (pe_cmpR op_lt (pe_op op_mulW (pe_ix ix_tup (pv 0) pe_int (fun _ _ => rfl)) (pe_ix ix_tup (pv 1) pe_int (fun _ _ => rfl))) (pe_op op_mulW (pe_ix ix_tup (pv 1) pe_int (fun _ _ => rfl)) (pe_ix ix_tup (pv 0) pe_int (fun _ _ => rfl))) (nomark _)))), ?_⟩
  obtain ⟨x0, x1, rfl, h⟩ := h
  obtain ⟨a, b, p, q, rfl, rfl, ha, hb, ⟨h1, h2, h3, h4⟩, h⟩ := h
  refine ⟨_, rfl, _, _, _, _, rfl, rfl, ha, atI0, _, rfl, _, _, _, _, rfl, rfl, hb, atI1, _, _, rfl, rfl, h1.cmul h4, ?_⟩
  refine ⟨_, rfl, _, _, _, _, rfl, rfl, hb, atI0, _, rfl, _, _, _, _, rfl, rfl, ha, atI1, _, _, rfl, rfl, h3.cmul h2, _, _, rfl, rfl, ?_⟩
  have e : decide (p.num * (q.den : Int) < q.num * (p.den : Int)) = decide (p < q) := decide_eq_decide.mpr (Rat.lt_iff p q).symm
  show Q (.bl (decide (p.num * (q.den : Int) < q.num * (p.den : Int)))) H
  rw [e]
  exact h
theorem ok_turned_up (T : Txt K mg) : Ok P w K mg base CX0 1 ("turned_up", none) ["share"] (spTurned K) := by
  refine mk_ok T 20 rfl sc_turned_up T.g_turned_up (fun _ _ _ _ _ _ us hl => match us, hl with | [_], _ => rfl) len1 (fun cdv A outer s H vs Q E hr h => ?_)
  refine ⟨_, (pss_cons (ps_asg (pv 0) (pg_tup (by rfl) (pgs_cons (pg_name (i := 1) sc_turned_up.nd rfl (Or.inl rfl)) (pgs_cons (pg_name (i := 2) sc_turned_up.nd rfl (Or.inl rfl)) pgs_nil))))
      (pss_one (ps_ret (pe_tup (pa_cons (pe_callB (call_max2 rfl) (by rfl) T.n_max (by decide +kernel) (pa_cons (pv 1) (pa_cons (pv 2) pa_nil))) (pa_cons (pe_callB (call_min2 rfl) (by rfl) T.n_min (by decide +kernel) (pa_cons (pv 1) (pa_cons (pv 2) pa_nil))) pa_nil)))))), ?_⟩
  obtain ⟨x0, rfl, h⟩ := h
  obtain ⟨a, q, rfl, ha, hq, h⟩ := h
  refine ⟨_, rfl, a, _, rfl, ha, rfl, _, _, rfl, _, _, rfl, rfl, ?_⟩
  refine ⟨_, rfl, _, rfl, _, _, rfl, _, rfl, _, rfl, _, _, rfl, (by show 2 ≤ sizeLine; decide), fun p hp => ?_⟩
  have e : [V.int (if (q.den : Int) > q.num then (q.den : Int) else q.num), V.int (if (q.den : Int) < q.num then (q.den : Int) else q.num)] = fracV (upOf q) := by
    unfold upOf fracV
    have hd := q.den_pos
    by_cases c : q < 1
    · have c' := (lt_one q).mp c
      rw [if_pos c, if_pos c', if_neg (by omega), (turn_num q hq).1, (turn_num q hq).2]
    · have c' : ¬ q.num < (q.den : Int) := fun z => c ((lt_one q).mpr z)
      rw [if_neg c, if_neg (by omega)]
      by_cases c2 : (q.den : Int) < q.num
      · rw [if_pos c2]
      · rw [if_neg c2]
        have : q.num = (q.den : Int) := by omega
        rw [this]
  show Q (.ref p) (upd H p (.tup [.int (if (q.den : Int) > q.num then (q.den : Int) else q.num), .int (if (q.den : Int) < q.num then (q.den : Int) else q.num)]))
  rw [e]
  exact h.go (Same.refl _) hp
theorem ok_nearest_whole (T : Txt K mg) : Ok P w K mg base CX0 1 ("nearest_whole", none) ["share"] (spNearest K) := by
  refine mk_ok T 21 rfl sc_nearest_whole T.g_nearest_whole (fun _ _ _ _ _ _ us hl => match us, hl with | [_], _ => rfl) len1 (fun cdv A outer s H vs Q E hr h => ?_)
  refine ⟨_, (pss_cons (ps_asg (pv 0) (pg_tup (by rfl) (pgs_cons (pg_name (i := 1) sc_nearest_whole.nd rfl (Or.inl rfl)) (pgs_cons (pg_name (i := 2) sc_nearest_whole.nd rfl (Or.inl rfl)) pgs_nil))))
      (pss_one (ps_ret (pe_op op_fdivW (pe_op op_add (pe_op op_mulW pe_int (pv 1)) (pv 2)) (pe_op op_mulW pe_int (pv 2)))))), ?_⟩
  obtain ⟨x0, rfl, h⟩ := h
  obtain ⟨a, q, rfl, ha, ⟨h1, h2⟩, h⟩ := h
  refine ⟨_, rfl, a, _, rfl, ha, rfl, _, _, rfl, _, _, rfl, rfl, ?_⟩
  have s2 : Sm 2 2 := by
    show (2 : Int).natAbs < 2 ^ 2
    decide
  have hd := q.den_pos
  refine ⟨_, rfl, _, _, rfl, rfl, s2.cmul h1, _, rfl, _, _, rfl, rfl, _, rfl, _, _, rfl, rfl, s2.cmul h2, _, _, rfl, rfl, sm_divW (by omega) (s2.mul h2), ?_⟩
  have e := nearest_is q
  show Q (.int ((2 * q.num + (q.den : Int)) / (2 * (q.den : Int)))) H
  rw [e]
  exact h
end
end CB
end
section
set_option Elab.async false
set_option linter.all false
set_option maxRecDepth 100000
set_option maxHeartbeats 4000000
namespace CB
open PySem PySem.Spec PyProof.Rows L2
/-! ### what grows: H the objects, F those of them that never change -/
structure Gr (H F H2 F2 : Hp) : Prop where
  keep : Same H H2
  fr : Same F F2
  sub : Same F2 H2
  new : ∀ b o, H b = some o → F2 b = F b
section
variable {H F H1 F1 H2 F2 : Hp} {p x dx C : Addr} {o o' : HO} {fs : List (Str × V)}
theorem Gr.refl (h : Same F H) : Gr H F H F := ⟨Same.refl _, Same.refl _, h, fun _ _ _ => rfl⟩
theorem Gr.trans (a : Gr H F H1 F1) (b : Gr H1 F1 H2 F2) : Gr H F H2 F2 :=
  ⟨a.keep.trans b.keep, a.fr.trans b.fr, b.sub, fun c o h => (b.new c o (a.keep c o h)).trans (a.new c o h)⟩
theorem free_sub (h : Same F H) (n : H p = none) : F p = none := h.free n
theorem ne_some {b : Addr} (h : H b = some o) (n : H p = none) : b ≠ p := ne_of_none h n
/-- a new object, and it never changes -/
theorem Gr.put (a : Gr H F H1 F1) (n : H1 p = none) : Gr H F (upd H1 p o) (upd F1 p o) where
  keep := same_upd2 a.keep n
  fr := same_upd2 a.fr (free_sub a.sub n)
  sub := fun b u e => by
    by_cases z : b = p
    · rw [z, upd_same] at e
      rw [z, upd_same]
      exact e
    · rw [upd_ne z] at e
      rw [upd_ne z]
      exact a.sub b u e
  new := fun b u e => by
    rw [upd_ne (ne_some (a.keep b u e) n)]
    exact a.new b u e
/-- a new object -/
theorem Gr.add (a : Gr H F H1 F1) (n : H1 p = none) : Gr H F (upd H1 p o) F1 where
  keep := same_upd2 a.keep n
  fr := a.fr
  sub := same_upd2 a.sub n
  new := a.new
/-- an object of one's own is changed -/
theorem Gr.mut (a : Gr H F H1 F1) (n : H p = none) (m : F1 p = none) : Gr H F (upd H1 p o) F1 where
  keep := fun b u e => by
    rw [upd_ne (ne_some e n)]
    exact a.keep b u e
  fr := a.fr
  sub := fun b u e => by
    rw [upd_ne (ne_some e m)]
    exact a.sub b u e
  new := a.new
/-- an object of one's own changes no more -/
theorem Gr.freeze (a : Gr H F H1 F1) (n : H p = none) (m : F1 p = none) (h : H1 p = some o) : Gr H F H1 (upd F1 p o) where
  keep := a.keep
  fr := same_upd2 a.fr m
  sub := fun b u e => by
    by_cases z : b = p
    · rw [z, upd_same] at e
      rw [z, h]
      exact e
    · rw [upd_ne z] at e
      exact a.sub b u e
  new := fun b u e => by
    rw [upd_ne (ne_some e n)]
    exact a.new b u e
/-- a new instance, its attributes set -/
theorem Gr.made (a : Gr H F H1 F1) (nx : H1 x = none) (nd : H1 dx = none) (ne : dx ≠ x) : Gr H F (upd (upd (upd H1 dx (.own x)) x (.ins C dx [])) x (.ins C dx fs)) (upd F1 x (.ins C dx fs)) := by
  rw [upd_upd]
  have n1 : upd H1 dx (.own x) x = none := by
    rw [upd_ne (Ne.symm ne)]
    exact nx
  exact (a.add nd).put n1
/-- the same, the instance may change -/
theorem Gr.make (a : Gr H F H1 F1) (nx : H1 x = none) (nd : H1 dx = none) (ne : dx ≠ x) : Gr H F (upd (upd (upd H1 dx (.own x)) x (.ins C dx [])) x (.ins C dx fs)) F1 := by
  rw [upd_upd]
  have n1 : upd H1 dx (.own x) x = none := by
    rw [upd_ne (Ne.symm ne)]
    exact nx
  exact (a.add nd).add n1
end
/-- what a def that makes objects promises of its end -/
def Res (H F : Hp) (Q : VK) (R : Hp → V → Prop) : Prop := ∀ v H2 F2, Gr H F H2 F2 → R F2 v → Q v H2
theorem Res.mono {H F H1 F1 : Hp} {Q : VK} {R : Hp → V → Prop} (k : Res H F Q R) (g : Gr H F H1 F1) : Res H1 F1 Q R := fun v H2 F2 g2 r => k v H2 F2 (g.trans g2) r
/-! ### the heap's words -/
def bV (t : LsText.Bytes) : List V := t.map fun c => V.int (c.toNat : Int)
def bK (t : LsText.Bytes) : List Key := t.map fun c => Sum.inl (c.toNat : Int)
theorem bK_V (t : LsText.Bytes) : (bK t).map kV = bV t := by
  unfold bK bV
  rw [List.map_map]
  rfl
theorem bV_len (t : LsText.Bytes) : (bV t).length = t.length := List.length_map _
theorem bV_get {t : LsText.Bytes} {i : Nat} {c : UInt8} (h : t[i]? = some c) : (bV t)[i]? = some (.int (c.toNat : Int)) := by
  unfold bV
  rw [List.getElem?_map, h]
  rfl
theorem toNat_inj {a b : UInt8} (h : (a.toNat : Int) = (b.toNat : Int)) : a = b := UInt8.toNat_inj.mp (by omega)
theorem bV_inj : ∀ {a b : LsText.Bytes}, bV a = bV b → a = b
  | [], [], _ => rfl
  | [], _ :: _, h => by cases h
  | _ :: _, [], h => by cases h
  | x :: a, y :: b, h => by
    have h1 : V.int (x.toNat : Int) :: bV a = V.int (y.toNat : Int) :: bV b := h
    injection h1 with e1 e2
    rw [toNat_inj (V.int.inj e1), bV_inj e2]
theorem bK_inj {a b : LsText.Bytes} (h : bK a = bK b) : a = b := bV_inj (by rw [← bK_V, ← bK_V, h])
/-- relates two lists item by item -/
abbrev All2 {α β : Type} (R : α → β → Prop) : List α → List β → Prop := Paired R
theorem All2.imp {α β : Type} {R S : α → β → Prop} (f : ∀ a b, R a b → S a b) : ∀ {l : List α} {r : List β}, All2 R l r → All2 S l r
  | _, _, .nil => .nil
  | _, _, .cons h t => .cons (f _ _ h) (All2.imp f t)
theorem All2.len {α β : Type} {R : α → β → Prop} : ∀ {l : List α} {r : List β}, All2 R l r → l.length = r.length
  | _, _, .nil => rfl
  | _, _, .cons _ t => congrArg (· + 1) (All2.len t)
theorem All2.app {α β : Type} {R : α → β → Prop} : ∀ {l : List α} {r : List β} {l' : List α} {r' : List β}, All2 R l r → All2 R l' r' → All2 R (l ++ l') (r ++ r')
  | _, _, _, _, .nil, h => h
  | _, _, _, _, .cons a t, h => .cons a (All2.app t h)
theorem All2.snoc {α β : Type} {R : α → β → Prop} {l : List α} {r : List β} {a : α} {b : β} (h : All2 R l r) (h' : R a b) : All2 R (l ++ [a]) (r ++ [b]) := h.app (.cons h' .nil)
theorem All2.get {α β : Type} {R : α → β → Prop} : ∀ {l : List α} {r : List β} {i : Nat} {a : α}, All2 R l r → l[i]? = some a → ∃ b, r[i]? = some b ∧ R a b
  | _, _, _, _, .nil, e => by simp at e
  | _, _, 0, _, .cons h _, e => by
    simp at e
    subst e
    exact ⟨_, rfl, h⟩
  | _, _, i + 1, a, .cons _ t, e => by
    obtain ⟨b, h1, h2⟩ := All2.get (i := i) (a := a) t (by simpa using e)
    exact ⟨b, by simpa using h1, h2⟩
theorem All2.get' {α β : Type} {R : α → β → Prop} : ∀ {l : List α} {r : List β} {i : Nat} {b : β}, All2 R l r → r[i]? = some b → ∃ a, l[i]? = some a ∧ R a b
  | _, _, _, _, .nil, e => by simp at e
  | _, _, 0, _, .cons h _, e => by
    simp at e
    subst e
    exact ⟨_, rfl, h⟩
  | _, _, i + 1, a, .cons _ t, e => by
    obtain ⟨b, h1, h2⟩ := All2.get' (i := i) (b := a) t (by simpa using e)
    exact ⟨b, by simpa using h1, h2⟩
def rV (as : List Addr) : List V := as.map V.ref
theorem rV_get {as : List Addr} {i : Nat} {v : V} (h : (rV as)[i]? = some v) : ∃ a, as[i]? = some a ∧ v = .ref a := by
  unfold rV at h
  rw [List.getElem?_map] at h
  cases e : as[i]? with
  | none =>
    rw [e] at h
    cases h
  | some a =>
    rw [e] at h
    exact ⟨a, rfl, (Option.some.inj h).symm⟩
/-! ### inits: each parameter is a field -/
theorem few0 : ([] : List (Str × V)).length ≤ 0 := Nat.le_refl _
theorem fw {n : Nat} {f : Str} {v : V} {fs : List (Str × V)} (h : fs.length ≤ n) : (putF f v fs).length ≤ n + 1 := Nat.le_trans (length_putF f v fs) (Nat.succ_le_succ h)
theorem few {n l : Nat} (h : l ≤ n) (hn : n < 1000 := by decide) : l < 1000 := Nat.lt_of_le_of_lt h hn
def spIn3 (C : Addr) (k1 k2 k3 : Str) : Sp := sp4 fun p a b c H Q _ => ∃ x dx, p = .ref x ∧ H x = some (.ins C dx []) ∧ Q .non (upd H x (.ins C dx [(k1, a), (k2, b), (k3, c)]))
def spIn4 (C : Addr) (k1 k2 k3 k4 : Str) : Sp := sp5 fun p a b c d H Q _ => ∃ x dx, p = .ref x ∧ H x = some (.ins C dx []) ∧ Q .non (upd H x (.ins C dx [(k1, a), (k2, b), (k3, c), (k4, d)]))
def spIn5 (C : Addr) (k1 k2 k3 k4 k5 : Str) : Sp := sp6 fun p a b c d e H Q _ => ∃ x dx, p = .ref x ∧ H x = some (.ins C dx []) ∧ Q .non (upd H x (.ins C dx [(k1, a), (k2, b), (k3, c), (k4, d), (k5, e)]))
abbrev spKnownI (K : PySem.W.Frag) : Sp := spIn3 (He.ga K "Known") "name" "x" "y"
abbrev spEntryI (K : PySem.W.Frag) : Sp := spIn5 (He.ga K "Entry") "chainage" "kind" "name" "number" "beside"
abbrev spLineI (K : PySem.W.Frag) : Sp := spIn4 (He.ga K "Line") "first" "second" "measure" "entries"
abbrev spBookI (K : PySem.W.Frag) : Sp := spIn3 (He.ga K "Book") "metres" "links" "sentences"
abbrev spTokenI (K : PySem.W.Frag) : Sp := spIn4 (He.ga K "Token") "kind" "row" "at" "behind"
section
variable {P : Program} {w : World} {K : PySem.W.Frag} {mg : Str → Option Value} {base : Heap}
theorem ok_Known___init__ (T : Txt K mg) : Ok P w K mg base CX0 1 ("Known", some "__init__") ["self", "name", "x", "y"] (spKnownI K) := by
  refine mk_ok T 0 rfl sc_Known___init__ T.g_Known (fun _ _ _ _ _ _ us hl => match us, hl with | [_, _, _, _], _ => rfl) len4 (fun cdv A outer s H vs Q E hr h => ?_)
  refine ⟨_, (pss_cons (ps_fld (pv 0) (pv 1) rfl)
      (pss_cons (ps_fld (pv 0) (pv 2) rfl)
      (pss_one (ps_fld (pv 0) (pv 3) rfl)))), ?_⟩
  obtain ⟨x0, x1, x2, x3, rfl, h⟩ := h
  obtain ⟨x, dx, rfl, hx, h⟩ := h
  refine ⟨_, rfl, _, rfl, x, _, dx, _, rfl, hx, T.c_Known, T.a_Known_name, few few0, ?_⟩
  refine ⟨_, rfl, _, rfl, x, _, dx, _, rfl, upd_same, T.c_Known, T.a_Known_x, few (fw few0), ?_⟩
  refine ⟨_, rfl, _, rfl, x, _, dx, _, rfl, upd_same, T.c_Known, T.a_Known_y, few (fw (fw few0)), ?_⟩
  rw [upd_upd, upd_upd]
  exact h
theorem ok_Entry___init__ (T : Txt K mg) : Ok P w K mg base CX0 1 ("Entry", some "__init__") ["self", "chainage", "kind", "name", "number", "beside"] (spEntryI K) := by
  refine mk_ok T 1 rfl sc_Entry___init__ T.g_Entry (fun _ _ _ _ _ _ us hl => match us, hl with | [_, _, _, _, _, _], _ => rfl) len6 (fun cdv A outer s H vs Q E hr h => ?_)
  refine ⟨_, (pss_cons (ps_fld (pv 0) (pv 1) rfl)
      (pss_cons (ps_fld (pv 0) (pv 2) rfl)
      (pss_cons (ps_fld (pv 0) (pv 3) rfl)
      (pss_cons (ps_fld (pv 0) (pv 4) rfl)
      (pss_one (ps_fld (pv 0) (pv 5) rfl)))))), ?_⟩
  obtain ⟨x0, x1, x2, x3, x4, x5, rfl, h⟩ := h
  obtain ⟨x, dx, rfl, hx, h⟩ := h
  refine ⟨_, rfl, _, rfl, x, _, dx, _, rfl, hx, T.c_Entry, T.a_Entry_chainage, few few0, ?_⟩
  refine ⟨_, rfl, _, rfl, x, _, dx, _, rfl, upd_same, T.c_Entry, T.a_Entry_kind, few (fw few0), ?_⟩
  refine ⟨_, rfl, _, rfl, x, _, dx, _, rfl, upd_same, T.c_Entry, T.a_Entry_name, few (fw (fw few0)), ?_⟩
  refine ⟨_, rfl, _, rfl, x, _, dx, _, rfl, upd_same, T.c_Entry, T.a_Entry_number, few (fw (fw (fw few0))), ?_⟩
  refine ⟨_, rfl, _, rfl, x, _, dx, _, rfl, upd_same, T.c_Entry, T.a_Entry_beside, few (fw (fw (fw (fw few0)))), ?_⟩
  rw [upd_upd, upd_upd, upd_upd, upd_upd]
  exact h
theorem ok_Line___init__ (T : Txt K mg) : Ok P w K mg base CX0 1 ("Line", some "__init__") ["self", "first", "second", "measure", "entries"] (spLineI K) := by
  refine mk_ok T 2 rfl sc_Line___init__ T.g_Line (fun _ _ _ _ _ _ us hl => match us, hl with | [_, _, _, _, _], _ => rfl) len5 (fun cdv A outer s H vs Q E hr h => ?_)
  refine ⟨_, (pss_cons (ps_fld (pv 0) (pv 1) rfl)
      (pss_cons (ps_fld (pv 0) (pv 2) rfl)
      (pss_cons (ps_fld (pv 0) (pv 3) rfl)
      (pss_one (ps_fld (pv 0) (pv 4) rfl))))), ?_⟩
  obtain ⟨x0, x1, x2, x3, x4, rfl, h⟩ := h
  obtain ⟨x, dx, rfl, hx, h⟩ := h
  refine ⟨_, rfl, _, rfl, x, _, dx, _, rfl, hx, T.c_Line, T.a_Line_first, few few0, ?_⟩
  refine ⟨_, rfl, _, rfl, x, _, dx, _, rfl, upd_same, T.c_Line, T.a_Line_second, few (fw few0), ?_⟩
  refine ⟨_, rfl, _, rfl, x, _, dx, _, rfl, upd_same, T.c_Line, T.a_Line_measure, few (fw (fw few0)), ?_⟩
  refine ⟨_, rfl, _, rfl, x, _, dx, _, rfl, upd_same, T.c_Line, T.a_Line_entries, few (fw (fw (fw few0))), ?_⟩
  rw [upd_upd, upd_upd, upd_upd]
  exact h
theorem ok_Book___init__ (T : Txt K mg) : Ok P w K mg base CX0 1 ("Book", some "__init__") ["self", "metres", "links", "sentences"] (spBookI K) := by
  refine mk_ok T 3 rfl sc_Book___init__ T.g_Book (fun _ _ _ _ _ _ us hl => match us, hl with | [_, _, _, _], _ => rfl) len4 (fun cdv A outer s H vs Q E hr h => ?_)
  refine ⟨_, (pss_cons (ps_fld (pv 0) (pv 1) rfl)
      (pss_cons (ps_fld (pv 0) (pv 2) rfl)
      (pss_one (ps_fld (pv 0) (pv 3) rfl)))), ?_⟩
  obtain ⟨x0, x1, x2, x3, rfl, h⟩ := h
  obtain ⟨x, dx, rfl, hx, h⟩ := h
  refine ⟨_, rfl, _, rfl, x, _, dx, _, rfl, hx, T.c_Book, T.a_Book_metres, few few0, ?_⟩
  refine ⟨_, rfl, _, rfl, x, _, dx, _, rfl, upd_same, T.c_Book, T.a_Book_links, few (fw few0), ?_⟩
  refine ⟨_, rfl, _, rfl, x, _, dx, _, rfl, upd_same, T.c_Book, T.a_Book_sentences, few (fw (fw few0)), ?_⟩
  rw [upd_upd, upd_upd]
  exact h
theorem ok_Token___init__ (T : Txt K mg) : Ok P w K mg base CX0 1 ("Token", some "__init__") ["self", "kind", "row", "at", "behind"] (spTokenI K) := by
  refine mk_ok T 37 rfl sc_Token___init__ T.g_Token (fun _ _ _ _ _ _ us hl => match us, hl with | [_, _, _, _, _], _ => rfl) len5 (fun cdv A outer s H vs Q E hr h => ?_)
  refine ⟨_, (pss_cons (ps_fld (pv 0) (pv 1) rfl)
      (pss_cons (ps_fld (pv 0) (pv 2) rfl)
      (pss_cons (ps_fld (pv 0) (pv 3) rfl)
      (pss_one (ps_fld (pv 0) (pv 4) rfl))))), ?_⟩
  obtain ⟨x0, x1, x2, x3, x4, rfl, h⟩ := h
  obtain ⟨x, dx, rfl, hx, h⟩ := h
  refine ⟨_, rfl, _, rfl, x, _, dx, _, rfl, hx, T.c_Token, T.a_Token_kind, few few0, ?_⟩
  refine ⟨_, rfl, _, rfl, x, _, dx, _, rfl, upd_same, T.c_Token, T.a_Token_row, few (fw few0), ?_⟩
  refine ⟨_, rfl, _, rfl, x, _, dx, _, rfl, upd_same, T.c_Token, T.a_Token_at, few (fw (fw few0)), ?_⟩
  refine ⟨_, rfl, _, rfl, x, _, dx, _, rfl, upd_same, T.c_Token, T.a_Token_behind, few (fw (fw (fw few0))), ?_⟩
  rw [upd_upd, upd_upd, upd_upd]
  exact h
end
end CB
end
section
set_option Elab.async false
set_option linter.all false
set_option maxRecDepth 100000
set_option maxHeartbeats 4000000
namespace CB
open PySem PySem.Spec PyProof.Rows L2
open LsText (Bytes isLetter isDigit isPart isShown isBlank isSign numberOf)
/-! ### signs -/
theorem letter_iff {c : UInt8} : isLetter c = true ↔ (65 ≤ c.toNat ∧ c.toNat ≤ 90) ∨ (97 ≤ c.toNat ∧ c.toNat ≤ 122) := by
  unfold LsText.isLetter LsText.isSmall LsText.isLarge
  simp only [Bool.or_eq_true, Bool.and_eq_true, decide_eq_true_eq]
  omega
theorem digit_iff {c : UInt8} : isDigit c = true ↔ 48 ≤ c.toNat ∧ c.toNat ≤ 57 := by
  unfold LsText.isDigit
  simp only [Bool.and_eq_true, decide_eq_true_eq]
theorem u8_eq {c d : UInt8} : c = d ↔ c.toNat = d.toNat := UInt8.toNat_inj.symm
theorem part_iff {c : UInt8} : isPart c = true ↔ isLetter c = true ∨ isDigit c = true ∨ c.toNat = 95 := by
  unfold LsText.isPart
  simp only [Bool.or_eq_true, beq_iff_eq]
  rw [u8_eq (d := 95)]
  exact Iff.rfl
theorem shown_iff {c : UInt8} : isShown c = true ↔ 32 ≤ c.toNat ∧ c.toNat ≤ 126 ∧ c.toNat ≠ 34 ∧ c.toNat ≠ 92 := by
  unfold LsText.isShown
  simp only [Bool.and_eq_true, decide_eq_true_eq, bne_iff_ne, ne_eq]
  rw [u8_eq (d := 34), u8_eq (d := 92)]
  exact Iff.rfl
theorem blank_iff {c : UInt8} : isBlank c = true ↔ c.toNat = 32 ∨ c.toNat = 9 ∨ c.toNat = 10 ∨ c.toNat = 13 := by
  unfold LsText.isBlank
  simp only [Bool.or_eq_true, beq_iff_eq]
  rw [u8_eq (d := 32), u8_eq (d := 9), u8_eq (d := 10), u8_eq (d := 13)]
  exact Iff.rfl
theorem sign_iff {c : UInt8} : isSign c = true ↔ c.toNat = 40 ∨ c.toNat = 41 ∨ c.toNat = 43 ∨ c.toNat = 44 ∨ c.toNat = 45 ∨ c.toNat = 47 ∨ c.toNat = 58 ∨ c.toNat = 59 ∨ c.toNat = 61 := by
  unfold LsText.isSign
  simp only [List.contains_iff_mem, List.mem_cons, List.not_mem_nil, or_false]
  rw [u8_eq (d := 40), u8_eq (d := 41), u8_eq (d := 43), u8_eq (d := 44), u8_eq (d := 45), u8_eq (d := 47), u8_eq (d := 58), u8_eq (d := 59), u8_eq (d := 61)]
  exact Iff.rfl
theorem bool_eq {a b : Bool} (h : a = true ↔ b = true) : a = b := Bool.eq_iff_iff.mpr h
def spSign (q : UInt8 → Bool) : Sp := sp1 fun x H Q _ => ∃ c : UInt8, x = .int (c.toNat : Int) ∧ Q (.bl (q c)) H
/-! ### tokens in the heap -/
def IsTk (K : PySem.W.Frag) (F : Hp) (a : Addr) (k : Tk) : Prop := ∃ dx ra, F a = some (.ins (He.ga K "Token") dx [("kind", .int k.kind), ("row", .ref ra), ("at", .int k.at_), ("behind", .int k.behind)]) ∧ F ra = some (.lst (bV k.row))
theorem IsTk.mono {K : PySem.W.Frag} {F F' : Hp} {a : Addr} {k : Tk} (s : Same F F') : IsTk K F a k → IsTk K F' a k := fun ⟨dx, ra, h1, h2⟩ => ⟨dx, ra, s _ _ h1, s _ _ h2⟩
def RTk (K : PySem.W.Frag) (k : Tk) : Hp → V → Prop := fun F v => ∃ p, v = .ref p ∧ IsTk K F p k
abbrev notIn10 : UInt8 → Bool := notLf
/-- a text read at a place -/
def spEnd (K : PySem.W.Frag) (f : Bytes → Nat → Nat) : Sp := sp2 fun x y H Q _ => ∃ (a : Addr) (t : Bytes) (s : Nat), x = .ref a ∧ SqL K H a (bV t) ∧ t.length ≤ 100000 ∧ y = .int (s : Int) ∧ s ≤ t.length ∧ Q (.int (f t s : Nat)) H
def spTkAt (K : PySem.W.Frag) (f : Bytes → Nat → Tk) (g : UInt8 → Bool) : Sp := sp2 fun x y H Q _ => ∃ (a : Addr) (t : Bytes) (s : Nat) (F : Hp), x = .ref a ∧ SqL K H a (bV t) ∧ t.length ≤ 100000 ∧ y = .int (s : Int) ∧ (∃ c, t[s]? = some c ∧ g c = true) ∧ Same F H ∧ Res H F Q (RTk K (f t s))
def spTkFrom (K : PySem.W.Frag) : Sp := sp2 fun x y H Q _ => ∃ (a : Addr) (t : Bytes) (s : Nat) (F : Hp), x = .ref a ∧ SqL K H a (bV t) ∧ t.length ≤ 100000 ∧ y = .int (s : Int) ∧ s ≤ t.length ∧ Same F H ∧ Res H F Q (RTk K (tkFrom t s))
def spNoTk (K : PySem.W.Frag) : Sp := sp1 fun x H Q _ => ∃ (s : Nat) (F : Hp), x = .int (s : Int) ∧ Same F H ∧ Res H F Q (RTk K (noTk s))
def spNumberOf (K : PySem.W.Frag) : Sp := sp1 fun x H Q _ => ∃ (a : Addr) (t : Bytes), x = .ref a ∧ SqL K H a (bV t) ∧ (∀ c ∈ t, isDigit c = true) ∧ Q (.int (numberOf t : Nat)) H
theorem at_bV {t : Bytes} {i : Nat} {c : UInt8} (h : t[i]? = some c) : atI (bV t) (i : Int) = some (.int (c.toNat : Int)) := atI_nat (bV_get h)
theorem get_some {t : Bytes} {i : Nat} (h : i < t.length) : ∃ c, t[i]? = some c := ⟨t[i], List.getElem?_eq_getElem h⟩
theorem take_snoc {α : Type} {l : List α} {i : Nat} {x : α} (h : l[i]? = some x) : l.take (i + 1) = l.take i ++ [x] := by
  rw [List.take_add_one, h]
  rfl
section
variable {P : Program} {w : World} {K : PySem.W.Frag} {mg : Str → Option Value} {base : Heap}
theorem ok_is_letter (T : Txt K mg) : Ok P w K mg base CX0 1 ("is_letter", none) ["byte"] (spSign isLetter) := by
  refine mk_ok T 39 rfl sc_is_letter T.g_is_letter (fun _ _ _ _ _ _ us hl => match us, hl with | [_], _ => rfl) len1 (fun cdv A outer s H vs Q E hr h => ?_)
  refine ⟨_, (pss_one (ps_ret (pe_or (pe_chain op_le op_le pe_int (pv 0) pe_int) (pe_one (pe_chain op_le op_le pe_int (pv 0) pe_int))))), ?_⟩
  obtain ⟨x0, rfl, h⟩ := h
  obtain ⟨c, rfl, h⟩ := h
  have hb := letter_iff (c := c)
  refine ⟨_, rfl, _, _, rfl, rfl, _, rfl, ?_⟩
  by_cases c1 : (65 : Int) ≤ (c.toNat : Int)
  · rw [decide_eq_true c1]
    refine iteT ⟨_, _, rfl, rfl, _, rfl, ?_⟩
    by_cases c2 : (c.toNat : Int) ≤ 90
    · rw [decide_eq_true c2]
      refine iteT ?_
      rw [hb.mpr (by omega)] at h
      exact h
    · rw [decide_eq_false c2]
      refine iteF ⟨_, rfl, _, _, rfl, rfl, _, rfl, ?_⟩
      by_cases c3 : (97 : Int) ≤ (c.toNat : Int)
      · rw [decide_eq_true c3]
        refine iteT ⟨_, _, rfl, rfl, ?_⟩
        have e : decide ((c.toNat : Int) ≤ 122) = isLetter c := bool_eq (by rw [decide_eq_true_eq, hb]; omega)
        rw [← e] at h
        exact h
      · rw [decide_eq_false c3]
        refine iteF ?_
        have e : isLetter c = false := Bool.eq_false_iff.mpr fun z => by have := hb.mp z; omega
        rw [e] at h
        exact h
  · rw [decide_eq_false c1]
    refine iteF ⟨_, rfl, iteF ⟨_, rfl, _, _, rfl, rfl, _, rfl, ?_⟩⟩
    by_cases c3 : (97 : Int) ≤ (c.toNat : Int)
    · omega
    · rw [decide_eq_false c3]
      refine iteF ?_
      have e : isLetter c = false := Bool.eq_false_iff.mpr fun z => by have := hb.mp z; omega
      rw [e] at h
      exact h
theorem ok_is_digit (T : Txt K mg) : Ok P w K mg base CX0 1 ("is_digit", none) ["byte"] (spSign isDigit) := by
  refine mk_ok T 40 rfl sc_is_digit T.g_is_digit (fun _ _ _ _ _ _ us hl => match us, hl with | [_], _ => rfl) len1 (fun cdv A outer s H vs Q E hr h => ?_)
  refine ⟨_, (pss_one (ps_ret (pe_chain op_le op_le pe_int (pv 0) pe_int))), ?_⟩
  obtain ⟨x0, rfl, h⟩ := h
  obtain ⟨c, rfl, h⟩ := h
  have hb := digit_iff (c := c)
  refine ⟨_, rfl, _, _, rfl, rfl, _, rfl, ?_⟩
  by_cases c1 : (48 : Int) ≤ (c.toNat : Int)
  · rw [decide_eq_true c1]
    refine iteT ⟨_, _, rfl, rfl, ?_⟩
    have e : decide ((c.toNat : Int) ≤ 57) = isDigit c := bool_eq (by rw [decide_eq_true_eq, hb]; omega)
    rw [← e] at h
    exact h
  · rw [decide_eq_false c1]
    refine iteF ?_
    have e : isDigit c = false := Bool.eq_false_iff.mpr fun z => by have := hb.mp z; omega
    rw [e] at h
    exact h
theorem ok_is_word_byte (T : Txt K mg) : Ok P w K mg base CX0 2 ("is_word_byte", none) ["byte"] (spSign isPart) := by
  refine mk_ok T 41 rfl sc_is_word_byte T.g_is_word_byte (fun _ _ _ _ _ _ us hl => match us, hl with | [_], _ => rfl) len1 (fun cdv A outer s H vs Q E hr h => ?_)
  refine ⟨_, (pss_one (ps_ret (pe_or (pe_c (ok_is_letter T) hr (pa_cons (pv 0) pa_nil)) (pe_or (pe_c (ok_is_digit T) hr (pa_cons (pv 0) pa_nil)) (pe_one (pe_cmpR op_eq (pv 0) (pe_cst T.m_UNDERSCORE) (nomark _))))))), ?_⟩
  obtain ⟨x0, rfl, h⟩ := h
  obtain ⟨c, rfl, h⟩ := h
  have hb := part_iff (c := c)
  refine ⟨_, rfl, _, rfl, c, rfl, _, rfl, ?_⟩
  cases e1 : isLetter c with
  | true =>
    refine iteT ?_
    rw [hb.mpr (.inl e1)] at h
    exact h
  | false =>
    refine iteF ⟨_, rfl, _, rfl, c, rfl, _, rfl, ?_⟩
    cases e2 : isDigit c with
    | true =>
      refine iteT ?_
      rw [hb.mpr (.inr (.inl e2))] at h
      exact h
    | false =>
      refine iteF ⟨_, rfl, rfl, ?_⟩
      have e : decide (V.int (c.toNat : Int) = V.int 95) = isPart c := bool_eq (by
        rw [decide_eq_true_eq, hb, e1, e2]
        constructor
        · intro z
          have := V.int.inj z
          exact .inr (.inr (by omega))
        · rintro (z | z | z)
          · cases z
          · cases z
          · rw [z]
            rfl)
      rw [← e] at h
      exact h
theorem ok_is_quoted_byte (T : Txt K mg) : Ok P w K mg base CX0 1 ("is_quoted_byte", none) ["byte"] (spSign isShown) := by
  refine mk_ok T 42 rfl sc_is_quoted_byte T.g_is_quoted_byte (fun _ _ _ _ _ _ us hl => match us, hl with | [_], _ => rfl) len1 (fun cdv A outer s H vs Q E hr h => ?_)
  refine ⟨_, (pss_one (ps_ret (pe_and (pe_chain op_le op_le pe_int (pv 0) pe_int) (pe_and (pe_cmpR op_ne (pv 0) (pe_cst T.m_QUOTE) (nomark _)) (pe_one (pe_cmpR op_ne (pv 0) (pe_cst T.m_BACKSLASH) (nomark _))))))), ?_⟩
  obtain ⟨x0, rfl, h⟩ := h
  obtain ⟨c, rfl, h⟩ := h
  have hb := shown_iff (c := c)
  have no : (¬ (32 ≤ c.toNat ∧ c.toNat ≤ 126 ∧ c.toNat ≠ 34 ∧ c.toNat ≠ 92)) → isShown c = false := fun n => Bool.eq_false_iff.mpr fun z => n (hb.mp z)
  have ne : ∀ k : Nat, (!decide (V.int (c.toNat : Int) = V.int (k : Int))) = decide (c.toNat ≠ k) := fun k => by
    by_cases z : c.toNat = k
    · rw [z]
      simp
    · rw [decide_eq_true z, decide_eq_false (fun q => z (by have := V.int.inj q; omega))]
      rfl
  refine ⟨_, rfl, _, _, rfl, rfl, _, rfl, ?_⟩
  by_cases c1 : (32 : Int) ≤ (c.toNat : Int)
  · rw [decide_eq_true c1]
    refine iteT ⟨_, _, rfl, rfl, _, rfl, ?_⟩
    by_cases c2 : (c.toNat : Int) ≤ 126
    · rw [decide_eq_true c2]
      refine iteT ⟨_, rfl, rfl, _, rfl, ?_⟩
      have n1 : (!decide (V.int (c.toNat : Int) = V.int 34)) = decide (c.toNat ≠ 34) := ne 34
      have n2 : (!decide (V.int (c.toNat : Int) = V.int 92)) = decide (c.toNat ≠ 92) := ne 92
      rw [n1]
      by_cases c3 : c.toNat ≠ 34
      · rw [decide_eq_true c3]
        refine iteT ⟨_, rfl, rfl, ?_⟩
        show Q (.bl (!decide (V.int (c.toNat : Int) = V.int 92))) H
        have e : (!decide (V.int (c.toNat : Int) = V.int 92)) = isShown c := by
          rw [n2]
          exact bool_eq (by rw [decide_eq_true_eq, hb]; omega)
        rw [e]
        exact h
      · rw [decide_eq_false c3]
        refine iteF ?_
        rw [no (by omega)] at h
        exact h
    · rw [decide_eq_false c2]
      refine iteF ?_
      rw [no (by omega)] at h
      exact h
  · rw [decide_eq_false c1]
    refine iteF ⟨_, rfl, iteF ?_⟩
    rw [no (by omega)] at h
    exact h
theorem ok_number_of (T : Txt K mg) : Ok P w K mg base CX0 1 ("number_of", none) ["digits"] (spNumberOf K) := by
  refine mk_ok T 43 rfl sc_number_of T.g_number_of (fun _ _ _ _ _ _ us hl => match us, hl with | [_], _ => rfl) len1 (fun cdv A outer s H vs Q E hr h => ?_)
  refine ⟨_, (pss_cons (ps_set (i := 1) sc_number_of.nd rfl (Or.inl rfl) pe_int)
      (pss_cons (ps_for PassesOwn.never rfl (pi_list (pv 0)) (pg_name (i := 2) sc_number_of.nd rfl (Or.inl rfl))
      (pss_one (ps_set (i := 1) sc_number_of.nd rfl (Or.inl rfl) (pe_op op_sub (pe_op op_add (pe_op op_mul (pv 1) pe_int) (pv 2)) pe_int))))
      (pss_one (ps_ret (pv 1))))), ?_⟩
  obtain ⟨x0, rfl, h⟩ := h
  obtain ⟨a, t, rfl, ha, hd, h⟩ := h
  refine ⟨_, rfl, a, rfl, ⟨_, ha⟩, for_list (K := K) (a := a) (xs := bV t) (fun i σ H' => H' = H ∧ ∃ v, σ = [some (.ref a), some (.int (numberOf (t.take i) : Nat)), v]) ⟨rfl, none, rfl⟩ ?_ ?_ ?_⟩
  · rintro i σ H' _ ⟨rfl, _⟩
    exact ha
  · rintro i x σ H' hx ⟨rfl, v, rfl⟩
    have hi : i < t.length := by
      rw [← bV_len t]
      exact (List.getElem?_eq_some_iff.mp hx).1
    obtain ⟨c, hc⟩ := get_some hi
    rw [bV_get hc] at hx
    cases hx
    have d := digit_iff.mp (hd c (List.mem_of_getElem? hc))
    refine ⟨_, rfl, _, _, rfl, rfl, .inr ⟨by decide, by decide⟩, _, rfl, _, _, rfl, rfl, _, _, rfl, rfl, rfl, some (.int (c.toNat : Int)), ?_⟩
    have e : numberOf (t.take (i + 1)) = 10 * numberOf (t.take i) + (c.toNat - 48) := by
      rw [take_snoc hc]
      unfold LsText.numberOf
      rw [List.foldl_append]
      rfl
    show [some (V.ref a), some (V.int ((numberOf (t.take i) : Nat) * 10 + (c.toNat : Int) - 48)), some (.int (c.toNat : Int))] = _
    rw [e]
    have : ((numberOf (t.take i) : Nat) : Int) * 10 + (c.toNat : Int) - 48 = ((10 * numberOf (t.take i) + (c.toNat - 48) : Nat) : Int) := by omega
    rw [this]
  · rintro σ H' ⟨rfl, v, rfl⟩
    refine ⟨_, rfl, ?_⟩
    rw [bV_len, List.take_length]
    exact h
theorem ok_line_end (T : Txt K mg) : Ok P w K mg base CX0 1 ("line_end", none) ["text", "start"] (spEnd K (endOf notLf)) := by
  refine mk_ok T 44 rfl sc_line_end T.g_line_end (fun _ _ _ _ _ _ us hl => match us, hl with | [_, _], _ => rfl) len2 (fun cdv A outer s H vs Q E hr h => ?_)
  refine ⟨_, (pss_cons (ps_for PassesOwn.never rfl (pi_range2 rfl T.n_range (pa_cons (pv 1) (pa_cons (pe_callB call_len (by rfl) T.n_len (by decide +kernel) (pa_cons (pv 0) pa_nil)) pa_nil))) (pg_name (i := 2) sc_line_end.nd rfl (Or.inl rfl))
      (pss_one (ps_if (pt_cmpR op_eq (pe_ix ix_list (pv 0) (pv 2) (fun _ _ => rfl)) (pe_cst T.m_LINE_FEED) (nomark _)) (pss_one (ps_ret (pv 2))) pss_nil)))
      (pss_one (ps_ret (pe_callB call_len (by rfl) T.n_len (by decide +kernel) (pa_cons (pv 0) pa_nil))))), ?_⟩
  obtain ⟨x0, x1, rfl, h⟩ := h
  obtain ⟨a, t, st, rfl, ha, hl, rfl, hs, h⟩ := h
  refine ⟨_, rfl, _, rfl, _, _, rfl, .inl ⟨_, ha, (bV_len t).symm⟩, (st : Int), (t.length : Int), rfl, ⟨by omega, by omega, by omega, by omega⟩, for_range (lo := st) (n := ((t.length : Int) - (st : Int)).toNat) (fun i σ H' => H' = H ∧ (∃ v, σ = [some (.ref a), some (.int (st : Int)), v]) ∧ endOf notLf t st = endOf notLf t (st + i)) ⟨rfl, ⟨none, rfl⟩, rfl⟩ ?_ ?_⟩
  · rintro i σ H' hi ⟨rfl, ⟨v, rfl⟩, e⟩
    obtain ⟨c, hc⟩ := get_some (t := t) (i := st + i) (by omega)
    refine ⟨_, rfl, _, rfl, _, _, _, _, rfl, rfl, ha, at_bV hc, rfl, _, rfl, ?_⟩
    by_cases q : c = 10
    · rw [decide_eq_true (show V.int (c.toNat : Int) = V.int 10 by rw [q]; rfl)]
      refine iteT ⟨_, rfl, ?_⟩
      have e2 : endOf notLf t st = st + i := e.trans (endOf_no hc (by rw [q]; rfl))
      rw [e2] at h
      exact h
    · rw [decide_eq_false (show ¬ V.int (c.toNat : Int) = V.int 10 from fun z => q (toNat_inj (V.int.inj z)))]
      refine iteF ⟨rfl, ⟨_, rfl⟩, ?_⟩
      exact e.trans (endOf_yes hc (by unfold notLf; exact bne_iff_ne.mpr q))
  · rintro σ H' ⟨rfl, ⟨v, rfl⟩, e⟩
    refine ⟨_, rfl, _, _, rfl, .inl ⟨_, ha, (bV_len t).symm⟩, ?_⟩
    have e2 : endOf notLf t st = t.length := by
      rw [e, show st + ((t.length : Int) - (st : Int)).toNat = t.length by omega]
      exact endOf_end
    rw [e2] at h
    exact h
theorem ok_word_end (T : Txt K mg) : Ok P w K mg base CX0 3 ("word_end", none) ["text", "start"] (spEnd K (endOf isPart)) := by
  refine mk_ok T 45 rfl sc_word_end T.g_word_end (fun _ _ _ _ _ _ us hl => match us, hl with | [_, _], _ => rfl) len2 (fun cdv A outer s H vs Q E hr h => ?_)
  refine ⟨_, (pss_cons (ps_for PassesOwn.never rfl (pi_range2 rfl T.n_range (pa_cons (pv 1) (pa_cons (pe_callB call_len (by rfl) T.n_len (by decide +kernel) (pa_cons (pv 0) pa_nil)) pa_nil))) (pg_name (i := 2) sc_word_end.nd rfl (Or.inl rfl))
      (pss_one (ps_if (pt_not (pt_val (pe_c (ok_is_word_byte T) hr (pa_cons (pe_ix ix_list (pv 0) (pv 2) (fun _ _ => rfl)) pa_nil)))) (pss_one (ps_ret (pv 2))) pss_nil)))
      (pss_one (ps_ret (pe_callB call_len (by rfl) T.n_len (by decide +kernel) (pa_cons (pv 0) pa_nil))))), ?_⟩
  obtain ⟨x0, x1, rfl, h⟩ := h
  obtain ⟨a, t, st, rfl, ha, hl, rfl, hs, h⟩ := h
  refine ⟨_, rfl, _, rfl, _, _, rfl, .inl ⟨_, ha, (bV_len t).symm⟩, (st : Int), (t.length : Int), rfl, ⟨by omega, by omega, by omega, by omega⟩, for_range (lo := st) (n := ((t.length : Int) - (st : Int)).toNat) (fun i σ H' => H' = H ∧ (∃ v, σ = [some (.ref a), some (.int (st : Int)), v]) ∧ endOf isPart t st = endOf isPart t (st + i)) ⟨rfl, ⟨none, rfl⟩, rfl⟩ ?_ ?_⟩
  · rintro i σ H' hi ⟨rfl, ⟨v, rfl⟩, e⟩
    obtain ⟨c, hc⟩ := get_some (t := t) (i := st + i) (by omega)
    refine ⟨_, rfl, _, rfl, _, _, _, _, rfl, rfl, ha, at_bV hc, _, rfl, c, rfl, _, rfl, ?_⟩
    cases q : isPart c with
    | false =>
      refine iteT ⟨_, rfl, ?_⟩
      have e2 : endOf isPart t st = st + i := e.trans (endOf_no hc q)
      rw [e2] at h
      exact h
    | true =>
      refine iteF ⟨rfl, ⟨_, rfl⟩, ?_⟩
      exact e.trans (endOf_yes hc q)
  · rintro σ H' ⟨rfl, ⟨v, rfl⟩, e⟩
    refine ⟨_, rfl, _, _, rfl, .inl ⟨_, ha, (bV_len t).symm⟩, ?_⟩
    have e2 : endOf isPart t st = t.length := by
      rw [e, show st + ((t.length : Int) - (st : Int)).toNat = t.length by omega]
      exact endOf_end
    rw [e2] at h
    exact h
theorem ok_digits_end (T : Txt K mg) : Ok P w K mg base CX0 2 ("digits_end", none) ["text", "start"] (spEnd K (endOf isDigit)) := by
  refine mk_ok T 46 rfl sc_digits_end T.g_digits_end (fun _ _ _ _ _ _ us hl => match us, hl with | [_, _], _ => rfl) len2 (fun cdv A outer s H vs Q E hr h => ?_)
  refine ⟨_, (pss_cons (ps_for PassesOwn.never rfl (pi_range2 rfl T.n_range (pa_cons (pv 1) (pa_cons (pe_callB call_len (by rfl) T.n_len (by decide +kernel) (pa_cons (pv 0) pa_nil)) pa_nil))) (pg_name (i := 2) sc_digits_end.nd rfl (Or.inl rfl))
      (pss_one (ps_if (pt_not (pt_val (pe_c (ok_is_digit T) hr (pa_cons (pe_ix ix_list (pv 0) (pv 2) (fun _ _ => rfl)) pa_nil)))) (pss_one (ps_ret (pv 2))) pss_nil)))
      (pss_one (ps_ret (pe_callB call_len (by rfl) T.n_len (by decide +kernel) (pa_cons (pv 0) pa_nil))))), ?_⟩
  obtain ⟨x0, x1, rfl, h⟩ := h
  obtain ⟨a, t, st, rfl, ha, hl, rfl, hs, h⟩ := h
  refine ⟨_, rfl, _, rfl, _, _, rfl, .inl ⟨_, ha, (bV_len t).symm⟩, (st : Int), (t.length : Int), rfl, ⟨by omega, by omega, by omega, by omega⟩, for_range (lo := st) (n := ((t.length : Int) - (st : Int)).toNat) (fun i σ H' => H' = H ∧ (∃ v, σ = [some (.ref a), some (.int (st : Int)), v]) ∧ endOf isDigit t st = endOf isDigit t (st + i)) ⟨rfl, ⟨none, rfl⟩, rfl⟩ ?_ ?_⟩
  · rintro i σ H' hi ⟨rfl, ⟨v, rfl⟩, e⟩
    obtain ⟨c, hc⟩ := get_some (t := t) (i := st + i) (by omega)
    refine ⟨_, rfl, _, rfl, _, _, _, _, rfl, rfl, ha, at_bV hc, _, rfl, c, rfl, _, rfl, ?_⟩
    cases q : isDigit c with
    | false =>
      refine iteT ⟨_, rfl, ?_⟩
      have e2 : endOf isDigit t st = st + i := e.trans (endOf_no hc q)
      rw [e2] at h
      exact h
    | true =>
      refine iteF ⟨rfl, ⟨_, rfl⟩, ?_⟩
      exact e.trans (endOf_yes hc q)
  · rintro σ H' ⟨rfl, ⟨v, rfl⟩, e⟩
    refine ⟨_, rfl, _, _, rfl, .inl ⟨_, ha, (bV_len t).symm⟩, ?_⟩
    have e2 : endOf isDigit t st = t.length := by
      rw [e, show st + ((t.length : Int) - (st : Int)).toNat = t.length by omega]
      exact endOf_end
    rw [e2] at h
    exact h
theorem ok_quoted_end (T : Txt K mg) : Ok P w K mg base CX0 2 ("quoted_end", none) ["text", "start"] (spEnd K (endOf isShown)) := by
  refine mk_ok T 47 rfl sc_quoted_end T.g_quoted_end (fun _ _ _ _ _ _ us hl => match us, hl with | [_, _], _ => rfl) len2 (fun cdv A outer s H vs Q E hr h => ?_)
  refine ⟨_, (pss_cons (ps_for PassesOwn.never rfl (pi_range2 rfl T.n_range (pa_cons (pv 1) (pa_cons (pe_callB call_len (by rfl) T.n_len (by decide +kernel) (pa_cons (pv 0) pa_nil)) pa_nil))) (pg_name (i := 2) sc_quoted_end.nd rfl (Or.inl rfl))
      (pss_one (ps_if (pt_not (pt_val (pe_c (ok_is_quoted_byte T) hr (pa_cons (pe_ix ix_list (pv 0) (pv 2) (fun _ _ => rfl)) pa_nil)))) (pss_one (ps_ret (pv 2))) pss_nil)))
      (pss_one (ps_ret (pe_callB call_len (by rfl) T.n_len (by decide +kernel) (pa_cons (pv 0) pa_nil))))), ?_⟩
  obtain ⟨x0, x1, rfl, h⟩ := h
  obtain ⟨a, t, st, rfl, ha, hl, rfl, hs, h⟩ := h
  refine ⟨_, rfl, _, rfl, _, _, rfl, .inl ⟨_, ha, (bV_len t).symm⟩, (st : Int), (t.length : Int), rfl, ⟨by omega, by omega, by omega, by omega⟩, for_range (lo := st) (n := ((t.length : Int) - (st : Int)).toNat) (fun i σ H' => H' = H ∧ (∃ v, σ = [some (.ref a), some (.int (st : Int)), v]) ∧ endOf isShown t st = endOf isShown t (st + i)) ⟨rfl, ⟨none, rfl⟩, rfl⟩ ?_ ?_⟩
  · rintro i σ H' hi ⟨rfl, ⟨v, rfl⟩, e⟩
    obtain ⟨c, hc⟩ := get_some (t := t) (i := st + i) (by omega)
    refine ⟨_, rfl, _, rfl, _, _, _, _, rfl, rfl, ha, at_bV hc, _, rfl, c, rfl, _, rfl, ?_⟩
    cases q : isShown c with
    | false =>
      refine iteT ⟨_, rfl, ?_⟩
      have e2 : endOf isShown t st = st + i := e.trans (endOf_no hc q)
      rw [e2] at h
      exact h
    | true =>
      refine iteF ⟨rfl, ⟨_, rfl⟩, ?_⟩
      exact e.trans (endOf_yes hc q)
  · rintro σ H' ⟨rfl, ⟨v, rfl⟩, e⟩
    refine ⟨_, rfl, _, _, rfl, .inl ⟨_, ha, (bV_len t).symm⟩, ?_⟩
    have e2 : endOf isShown t st = t.length := by
      rw [e, show st + ((t.length : Int) - (st : Int)).toNat = t.length by omega]
      exact endOf_end
    rw [e2] at h
    exact h
theorem blank_in (c : UInt8) : inV (.int (c.toNat : Int)) [.int 32, .int 9, .int 10, .int 13] = isBlank c := by
  refine bool_eq ?_
  rw [blank_iff]
  unfold inV
  simp only [List.any_cons, List.any_nil, Bool.or_false, Bool.or_eq_true, eqV, beq_iff_eq]
  omega
theorem sign_in (c : UInt8) : inV (.int (c.toNat : Int)) [.int 40, .int 41, .int 43, .int 44, .int 45, .int 47, .int 58, .int 59, .int 61] = isSign c := by
  refine bool_eq ?_
  rw [sign_iff]
  unfold inV
  simp only [List.any_cons, List.any_nil, Bool.or_false, Bool.or_eq_true, eqV, beq_iff_eq]
  omega
theorem dec37 {c : UInt8} (k : Nat) (hk : k < 256) : decide (V.int (c.toNat : Int) = V.int (k : Int)) = decide (c = UInt8.ofNat k) := by
  refine decide_eq_decide.mpr ⟨fun z => ?_, fun z => ?_⟩
  · have := V.int.inj z
    refine u8_eq.mpr ?_
    rw [UInt8.toNat_ofNat']
    omega
  · rw [z, UInt8.toNat_ofNat', Nat.mod_eq_of_lt hk]
theorem ok_blanks_end (T : Txt K mg) : Ok P w K mg base CX0 2 ("blanks_end", none) ["text", "start"] (spEnd K skip) := by
  refine mk_ok T 48 rfl sc_blanks_end T.g_blanks_end (fun _ _ _ _ _ _ us hl => match us, hl with | [_, _], _ => rfl) len2 (fun cdv A outer s H vs Q E hr h => ?_)
  refine ⟨_, (pss_cons (ps_set (i := 2) sc_blanks_end.nd rfl (Or.inl rfl) (pv 1))
      (pss_cons (ps_while PassesOwn.never (PW.pt (pw_and (pt_cmpR op_lt (pv 2) (pe_callB call_len (by rfl) T.n_len (by decide +kernel) (pa_cons (pv 0) pa_nil)) (nomark _)) (pw_and1 (PW.pt (pw_or (pt_cmpR op_in_seq (pe_ix ix_list (pv 0) (pv 2) (fun _ _ => rfl)) (pe_gref T.g_BLANKS) (by rfl)) (pw_or1 (pt_cmpR op_eq (pe_ix ix_list (pv 0) (pv 2) (fun _ _ => rfl)) (pe_cst T.m_PERCENT) (nomark _)))))))) (pss_one (ps_if (pt_cmpR op_eq (pe_ix ix_list (pv 0) (pv 2) (fun _ _ => rfl)) (pe_cst T.m_PERCENT) (nomark _)) (pss_one (ps_set (i := 2) sc_blanks_end.nd rfl (Or.inl rfl) (pe_c (ok_line_end T) hr (pa_cons (pv 0) (pa_cons (pv 2) pa_nil))))) (pss_one (ps_aug (i := 2) sc_blanks_end.nd rfl (Or.inl rfl) pe_int ip_add)))))
      (pss_one (ps_ret (pv 2))))), ?_⟩
  obtain ⟨x0, x1, rfl, h⟩ := h
  obtain ⟨a, t, st, rfl, ha, hl, rfl, hs, h⟩ := h
  refine ⟨_, rfl, ?_⟩
  refine ⟨fun m σ H' => H' = H ∧ ∃ i : Nat, σ = [some (.ref a), some (.int (st : Int)), some (.int (i : Int))] ∧ i ≤ t.length ∧ skip t st = skip t i ∧ m = t.length - i, ⟨_, rfl, st, rfl, hs, rfl, rfl⟩, ?_⟩
  rintro m σ H' ⟨rfl, i, rfl, hi, e, rfl⟩
  refine ⟨_, rfl, _, rfl, _, _, rfl, .inl ⟨_, ha, (bV_len t).symm⟩, _, _, rfl, rfl, _, rfl, ?_⟩
  by_cases q : i < t.length
  · rw [decide_eq_true (show (i : Int) < (t.length : Int) by omega)]
    obtain ⟨c, hc⟩ := get_some q
    have d37 : decide (V.int (c.toNat : Int) = V.int 37) = decide (c = 37) := dec37 37 (by decide)
    refine iteT ⟨_, rfl, _, rfl, _, _, _, _, rfl, rfl, ha, at_bV hc, _, _, rfl, .inr (T.t_BLANKS _), rfl, rfl, _, rfl, ?_⟩
    show if inV (.int (c.toNat : Int)) [.int 32, .int 9, .int 10, .int 13] = true then _ else _
    rw [blank_in]
    by_cases q2 : c = 37
    · have hb : isBlank c = false := by
        rw [q2]
        rfl
      rw [hb]
      refine iteF ⟨_, rfl, _, rfl, _, _, _, _, rfl, rfl, ha, at_bV hc, rfl, _, rfl, ?_⟩
      rw [d37, decide_eq_true q2]
      refine iteT ⟨fun σ' H'' => H'' = H' ∧ σ' = [some (.ref a), some (.int (st : Int)), some (.int ((endOf notLf t i : Nat) : Int))], ?_, _, rfl, _, rfl, _, _, _, _, rfl, rfl, ha, at_bV hc, rfl, _, rfl, ?_⟩
      · rw [q2] at hc
        have g1 := endOf_yes (q := notLf) hc (by decide)
        have g2 := endOf_ge (q := notLf) (t := t) (s := i + 1)
        rintro σ' H'' ⟨rfl, rfl⟩
        exact ⟨t.length - endOf notLf t i, by omega, rfl, _, rfl, endOf_le hi, e.trans (skip_rem hc), rfl⟩
      · rw [d37, decide_eq_true q2]
        exact iteT ⟨_, rfl, _, rfl, _, _, rfl, a, t, i, rfl, ha, hl, rfl, hi, rfl, rfl⟩
    · cases hb : isBlank c with
      | true =>
        refine iteT (iteT ⟨fun σ' H'' => H'' = H' ∧ σ' = [some (.ref a), some (.int (st : Int)), some (.int ((i + 1 : Nat) : Int))], ?_, _, rfl, _, rfl, _, _, _, _, rfl, rfl, ha, at_bV hc, rfl, _, rfl, ?_⟩)
        · rintro σ' H'' ⟨rfl, rfl⟩
          exact ⟨t.length - (i + 1), by omega, rfl, _, rfl, q, e.trans (skip_blank hc q2 hb), rfl⟩
        · rw [d37, decide_eq_false q2]
          exact iteF ⟨_, rfl, _, _, rfl, rfl, rfl, rfl⟩
      | false =>
        refine iteF ⟨_, rfl, _, rfl, _, _, _, _, rfl, rfl, ha, at_bV hc, rfl, _, rfl, ?_⟩
        rw [d37, decide_eq_false q2]
        refine iteF ⟨_, rfl, ?_⟩
        rw [e, skip_stop hc q2 hb] at h
        exact h
  · rw [decide_eq_false (show ¬ (i : Int) < (t.length : Int) by omega)]
    refine iteF (iteF ⟨_, rfl, ?_⟩)
    have z : i = t.length := by omega
    rw [e, z, skip_end] at h
    rw [z]
    exact h
end
end CB
end
section
set_option Elab.async false
set_option linter.all false
set_option maxRecDepth 100000
set_option maxHeartbeats 4000000
namespace CB
open PySem PySem.Spec PyProof.Rows L2
open LsText (Bytes isLetter isDigit isPart isShown isBlank isSign numberOf)
theorem cutV_cut {α : Type} (f : α → V) {l : List α} {a b : Nat} (ha : a ≤ l.length) (hb : b ≤ l.length) : cutV (l.map f) (some (a : Int)) (some (b : Int)) = ((l.drop a).take (b - a)).map f := by
  unfold cutV
  rw [HT.sIx_nat, HT.sIx_nat, List.length_map, Nat.min_eq_left ha, Nat.min_eq_left hb, List.map_take, List.map_drop]
theorem cutV_bV {t : Bytes} {a b : Nat} (ha : a ≤ t.length) (hb : b ≤ t.length) : cutV (bV t) (some (a : Int)) (some (b : Int)) = bV (cut t a b) := cutV_cut _ ha hb
section
variable {H F H1 F1 : Hp} {Q : VK} {x dx ra : Addr} {K : PySem.W.Frag} {k : Tk}
theorem tk_made (g : Gr H F H1 F1) (nx : H1 x = none) (nd : H1 dx = none) (ne : dx ≠ x) (hr : F1 ra = some (.lst (bV k.row))) (h : Res H F Q (RTk K k)) :
    Q (.ref x) (upd (upd (upd H1 dx (.own x)) x (.ins (He.ga K "Token") dx [])) x (.ins (He.ga K "Token") dx [("kind", .int k.kind), ("row", .ref ra), ("at", .int k.at_), ("behind", .int k.behind)])) := by
  refine h _ _ _ (g.made nx nd ne) ⟨x, rfl, dx, ra, upd_same, ?_⟩
  rw [upd_ne (ne_some (g.sub _ _ hr) nx)]
  exact hr
end
section
variable {P : Program} {w : World} {K : PySem.W.Frag} {mg : Str → Option Value} {base : Heap}
theorem ok_no_token (T : Txt K mg) : Ok P w K mg base CX0 3 ("no_token", none) ["at"] (spNoTk K) := by
  refine mk_ok T 49 rfl sc_no_token T.g_no_token (fun _ _ _ _ _ _ us hl => match us, hl with | [_], _ => rfl) len1 (fun cdv A outer s H vs Q E hr h => ?_)
  refine ⟨_, (pss_one (ps_ret (pe_k T.k_Token (ok_Token___init__ T) hr (pa_cons (pe_cst T.m_NO_TOKEN) (pa_cons (pe_lst pa_nil) (pa_cons (pv 0) (pa_cons (pv 0) pa_nil))))))), ?_⟩
  obtain ⟨x0, rfl, h⟩ := h
  obtain ⟨st, F, rfl, hF, h⟩ := h
  refine ⟨(by show 0 ≤ sizeLine; decide), fun ra hra => ⟨_, rfl, _, rfl, fun x dx nx nd ne => ⟨_, _, _, _, _, rfl, x, dx, rfl, upd_same, rfl, ?_⟩⟩⟩
  exact tk_made (k := noTk st) ((Gr.refl hF).put hra) nx nd ne upd_same h
theorem ok_word_at (T : Txt K mg) : Ok P w K mg base CX0 4 ("word_at", none) ["text", "at"] (spTkAt K wordAt isLetter) := by
  refine mk_ok T 50 rfl sc_word_at T.g_word_at (fun _ _ _ _ _ _ us hl => match us, hl with | [_, _], _ => rfl) len2 (fun cdv A outer s H vs Q E hr h => ?_)
  refine ⟨_, (pss_cons (ps_set (i := 2) sc_word_at.nd rfl (Or.inl rfl) (pe_c (ok_word_end T) hr (pa_cons (pv 0) (pa_cons (pv 1) pa_nil))))
      (pss_cons (ps_if (pt_cmpR op_gt (pe_op op_sub (pv 2) (pv 1)) (pe_cst T.m_MOST_NAME) (nomark _)) (pss_one (ps_ret (pe_c (ok_no_token T) hr (pa_cons (pv 1) pa_nil)))) pss_nil)
      (pss_one (ps_ret (pe_k T.k_Token (ok_Token___init__ T) hr (pa_cons (pe_cst T.m_WORD) (pa_cons (pe_slice sl_list (pv 0) (po_some (pv 1)) (po_some (pv 2))) (pa_cons (pv 1) (pa_cons (pv 2) pa_nil))))))))), ?_⟩
  obtain ⟨x0, x1, rfl, h⟩ := h
  obtain ⟨a, t, st, F, rfl, ha, hl, rfl, ⟨c, hc, hg⟩, hF, h⟩ := h
  have hs : st < t.length := (List.getElem?_eq_some_iff.mp hc).1
  have hle : endOf isPart t st ≤ t.length := endOf_le (Nat.le_of_lt hs)
  have hge : st ≤ endOf isPart t st := endOf_ge
  refine ⟨_, rfl, _, rfl, _, _, rfl, a, t, st, rfl, ha, hl, rfl, Nat.le_of_lt hs, ?_⟩
  refine ⟨_, rfl, _, rfl, _, _, rfl, rfl, _, _, rfl, rfl, _, rfl, ?_⟩
  by_cases q : 31 < endOf isPart t st - st
  · rw [decide_eq_true (show (31 : Int) < (endOf isPart t st : Int) - (st : Int) by omega)]
    refine iteT ⟨_, rfl, _, rfl, st, F, rfl, hF, ?_⟩
    unfold wordAt at h
    rw [if_pos q] at h
    exact h
  · rw [decide_eq_false (show ¬ (31 : Int) < (endOf isPart t st : Int) - (st : Int) by omega)]
    unfold wordAt at h
    rw [if_neg q] at h
    refine iteF ⟨_, rfl, _, rfl, _, rfl, _, rfl, _, rfl, a, _, rfl, ha, fun ra hra => ⟨_, rfl, _, rfl, fun x dx nx nd ne => ⟨_, _, _, _, _, rfl, x, dx, rfl, upd_same, rfl, ?_⟩⟩⟩
    rw [cutV_bV (Nat.le_of_lt hs) hle] at nx nd ⊢
    exact tk_made (k := ⟨2, cut t st (endOf isPart t st), st, endOf isPart t st⟩) ((Gr.refl hF).put hra) nx nd ne upd_same h
theorem ok_number_at (T : Txt K mg) : Ok P w K mg base CX0 4 ("number_at", none) ["text", "at"] (spTkAt K numberAt isDigit) := by
  refine mk_ok T 51 rfl sc_number_at T.g_number_at (fun _ _ _ _ _ _ us hl => match us, hl with | [_, _], _ => rfl) len2 (fun cdv A outer s H vs Q E hr h => ?_)
  refine ⟨_, (pss_cons (ps_set (i := 2) sc_number_at.nd rfl (Or.inl rfl) (pe_c (ok_digits_end T) hr (pa_cons (pv 0) (pa_cons (pv 1) pa_nil))))
      (pss_cons (ps_if (pt_cmpR op_gt (pe_op op_sub (pv 2) (pv 1)) (pe_cst T.m_MOST_DIGITS) (nomark _)) (pss_one (ps_ret (pe_c (ok_no_token T) hr (pa_cons (pv 1) pa_nil)))) pss_nil)
      (pss_cons (ps_if (PW.pt (pw_and (pt_cmpR op_lt (pv 2) (pe_callB call_len (by rfl) T.n_len (by decide +kernel) (pa_cons (pv 0) pa_nil)) (nomark _)) (pw_and1 (pt_val (pe_c (ok_is_word_byte T) hr (pa_cons (pe_ix ix_list (pv 0) (pv 2) (fun _ _ => rfl)) pa_nil)))))) (pss_one (ps_ret (pe_c (ok_no_token T) hr (pa_cons (pv 1) pa_nil)))) pss_nil)
      (pss_one (ps_ret (pe_k T.k_Token (ok_Token___init__ T) hr (pa_cons (pe_cst T.m_NUMBER) (pa_cons (pe_slice sl_list (pv 0) (po_some (pv 1)) (po_some (pv 2))) (pa_cons (pv 1) (pa_cons (pv 2) pa_nil)))))))))), ?_⟩
  obtain ⟨x0, x1, rfl, h⟩ := h
  obtain ⟨a, t, st, F, rfl, ha, hl, rfl, ⟨c, hc, hg⟩, hF, h⟩ := h
  have hs : st < t.length := (List.getElem?_eq_some_iff.mp hc).1
  have hle : endOf isDigit t st ≤ t.length := endOf_le (Nat.le_of_lt hs)
  have hge : st ≤ endOf isDigit t st := endOf_ge
  refine ⟨_, rfl, _, rfl, _, _, rfl, a, t, st, rfl, ha, hl, rfl, Nat.le_of_lt hs, ?_⟩
  refine ⟨_, rfl, _, rfl, _, _, rfl, rfl, _, _, rfl, rfl, _, rfl, ?_⟩
  by_cases q : 9 < endOf isDigit t st - st
  · rw [decide_eq_true (show (9 : Int) < (endOf isDigit t st : Int) - (st : Int) by omega)]
    refine iteT ⟨_, rfl, _, rfl, st, F, rfl, hF, ?_⟩
    unfold numberAt at h
    rw [if_pos q] at h
    exact h
  · rw [decide_eq_false (show ¬ (9 : Int) < (endOf isDigit t st : Int) - (st : Int) by omega)]
    unfold numberAt at h
    rw [if_neg q] at h
    refine iteF ⟨_, rfl, _, rfl, _, _, rfl, .inl ⟨_, ha, (bV_len t).symm⟩, _, _, rfl, rfl, _, rfl, ?_⟩
    have last : ∀ D : Ends, (∀ v H', D.rt v H' = Q v H') → partAt t (endOf isDigit t st) = false → tRet (tMake (He.ga K "Token") (spTokenI K) [] E0 (tCons (tC (.int 3)) (tCons (tSl (rSlL K) (tVar 0) (tPart (tVar 1)) (tPart (tVar 2))) (tCons (tVar 1) (tCons (tVar 2) tNil))))) D [some (.ref a), some (.int (st : Int)), some (.int (endOf isDigit t st : Nat))] H := fun D hD hp => by
      rw [if_neg (by rw [hp]; decide)] at h
      refine ⟨_, rfl, _, rfl, _, rfl, _, rfl, _, rfl, a, _, rfl, ha, fun ra hra => ⟨_, rfl, _, rfl, fun x dx nx nd ne => ⟨_, _, _, _, _, rfl, x, dx, rfl, upd_same, rfl, ?_⟩⟩⟩
      rw [cutV_bV (Nat.le_of_lt hs) hle] at nx nd ⊢
      rw [hD]
      exact tk_made (k := ⟨3, cut t st (endOf isDigit t st), st, endOf isDigit t st⟩) ((Gr.refl hF).put hra) nx nd ne upd_same h
    by_cases q2 : endOf isDigit t st < t.length
    · obtain ⟨d, hd⟩ := get_some q2
      rw [decide_eq_true (show (endOf isDigit t st : Int) < (t.length : Int) by omega)]
      refine iteT ⟨_, rfl, _, rfl, _, _, _, _, rfl, rfl, ha, at_bV hd, _, rfl, d, rfl, _, rfl, ?_⟩
      have hp : partAt t (endOf isDigit t st) = isPart d := by
        unfold partAt
        rw [hd]
      cases hd' : isPart d with
      | true =>
        refine iteT ⟨_, rfl, _, rfl, st, F, rfl, hF, ?_⟩
        rw [if_pos (hp.trans hd')] at h
        exact h
      | false => exact iteF (last _ (fun _ _ => rfl) (hp.trans hd'))
    · rw [decide_eq_false (show ¬ (endOf isDigit t st : Int) < (t.length : Int) by omega)]
      refine iteF (iteF (last _ (fun _ _ => rfl) ?_))
      unfold partAt
      rw [List.getElem?_eq_none_iff.mpr (by omega)]
theorem ok_text_at (T : Txt K mg) : Ok P w K mg base CX0 4 ("text_at", none) ["text", "at"] (spTkAt K textAt (fun _ => true)) := by
  refine mk_ok T 52 rfl sc_text_at T.g_text_at (fun _ _ _ _ _ _ us hl => match us, hl with | [_, _], _ => rfl) len2 (fun cdv A outer s H vs Q E hr h => ?_)
  refine ⟨_, (pss_cons (ps_set (i := 2) sc_text_at.nd rfl (Or.inl rfl) (pe_c (ok_quoted_end T) hr (pa_cons (pv 0) (pa_cons (pe_op op_add (pv 1) pe_int) pa_nil))))
      (pss_cons (ps_if (PW.pt (pw_or (pt_cmpR op_eq (pv 2) (pe_callB call_len (by rfl) T.n_len (by decide +kernel) (pa_cons (pv 0) pa_nil)) (nomark _)) (pw_or1 (pt_cmpR op_ne (pe_ix ix_list (pv 0) (pv 2) (fun _ _ => rfl)) (pe_cst T.m_QUOTE) (nomark _))))) (pss_one (ps_ret (pe_c (ok_no_token T) hr (pa_cons (pv 1) pa_nil)))) pss_nil)
      (pss_cons (ps_if (pt_cmpR op_gt (pe_op op_sub (pe_op op_sub (pv 2) (pv 1)) pe_int) (pe_cst T.m_MOST_QUOTED) (nomark _)) (pss_one (ps_ret (pe_c (ok_no_token T) hr (pa_cons (pv 1) pa_nil)))) pss_nil)
      (pss_one (ps_ret (pe_k T.k_Token (ok_Token___init__ T) hr (pa_cons (pe_cst T.m_TEXT) (pa_cons (pe_slice sl_list (pv 0) (po_some (pe_op op_add (pv 1) pe_int)) (po_some (pv 2))) (pa_cons (pv 1) (pa_cons (pe_op op_add (pv 2) pe_int) pa_nil)))))))))), ?_⟩
  obtain ⟨x0, x1, rfl, h⟩ := h
  obtain ⟨a, t, st, F, rfl, ha, hl, rfl, ⟨c, hc, hg⟩, hF, h⟩ := h
  have hs : st < t.length := (List.getElem?_eq_some_iff.mp hc).1
  have hle : endOf isShown t (st + 1) ≤ t.length := endOf_le hs
  have hge : st + 1 ≤ endOf isShown t (st + 1) := endOf_ge
  refine ⟨_, rfl, _, rfl, _, _, rfl, rfl, _, _, rfl, a, t, st + 1, rfl, ha, hl, rfl, hs, ?_⟩
  unfold textAt at h
  have none_ : ¬ t[endOf isShown t (st + 1)]? = some 34 → tRet (tCall (spNoTk K) [] E0 (tCons (tVar 1) tNil)) { nx := fun _ H' => Q .non H', rt := Q } [some (.ref a), some (.int (st : Int)), some (.int (endOf isShown t (st + 1) : Nat))] H := fun n => by
    rw [if_neg n] at h
    exact ⟨_, rfl, _, rfl, st, F, rfl, hF, h⟩
  refine ⟨_, rfl, _, rfl, _, _, rfl, .inl ⟨_, ha, (bV_len t).symm⟩, rfl, _, rfl, ?_⟩
  by_cases q : endOf isShown t (st + 1) = t.length
  · rw [decide_eq_true (show V.int (endOf isShown t (st + 1) : Nat) = V.int (t.length : Nat) by rw [q])]
    refine iteT (iteT ?_)
    exact none_ (by rw [List.getElem?_eq_none_iff.mpr (by omega)]; intro z; cases z)
  · rw [decide_eq_false (show ¬ V.int (endOf isShown t (st + 1) : Nat) = V.int (t.length : Nat) from fun z => q (by have := V.int.inj z; omega))]
    obtain ⟨d, hd⟩ := get_some (t := t) (i := endOf isShown t (st + 1)) (by omega)
    refine iteF ⟨_, rfl, _, rfl, _, _, _, _, rfl, rfl, ha, at_bV hd, rfl, _, rfl, ?_⟩
    have d34 : decide (V.int (d.toNat : Int) = V.int 34) = decide (d = 34) := dec37 34 (by decide)
    rw [d34]
    by_cases q2 : d = 34
    · rw [decide_eq_true q2]
      rw [if_pos (by rw [hd, q2])] at h
      refine iteF ⟨_, rfl, _, rfl, _, _, rfl, rfl, _, _, rfl, rfl, _, _, rfl, rfl, _, rfl, ?_⟩
      by_cases q3 : 40 < endOf isShown t (st + 1) - st - 1
      · rw [decide_eq_true (show (40 : Int) < (endOf isShown t (st + 1) : Int) - (st : Int) - 1 by omega)]
        rw [if_pos q3] at h
        exact iteT ⟨_, rfl, _, rfl, st, F, rfl, hF, h⟩
      · rw [decide_eq_false (show ¬ (40 : Int) < (endOf isShown t (st + 1) : Int) - (st : Int) - 1 by omega)]
        rw [if_neg q3] at h
        refine iteF ⟨_, rfl, _, rfl, _, _, rfl, rfl, _, rfl, _, rfl, _, rfl, a, _, rfl, ha, fun ra hra => ⟨_, rfl, _, rfl, _, _, rfl, rfl, fun x dx nx nd ne => ⟨_, _, _, _, _, rfl, x, dx, rfl, upd_same, rfl, ?_⟩⟩⟩
        have ec : cutV (bV t) (some ((st : Int) + 1)) (some (endOf isShown t (st + 1) : Nat)) = bV (cut t (st + 1) (endOf isShown t (st + 1))) := cutV_bV (a := st + 1) hs hle
        rw [ec] at nx nd ⊢
        exact tk_made (k := ⟨4, cut t (st + 1) (endOf isShown t (st + 1)), st, endOf isShown t (st + 1) + 1⟩) ((Gr.refl hF).put hra) nx nd ne upd_same h
    · rw [decide_eq_false q2]
      exact iteT (none_ (by rw [hd]; intro z; exact q2 (Option.some.inj z)))
theorem ok_token_from (T : Txt K mg) : Ok P w K mg base CX0 5 ("token_from", none) ["text", "start"] (spTkFrom K) := by
  refine mk_ok T 53 rfl sc_token_from T.g_token_from (fun _ _ _ _ _ _ us hl => match us, hl with | [_, _], _ => rfl) len2 (fun cdv A outer s H vs Q E hr h => ?_)
  refine ⟨_, (pss_cons (ps_set (i := 2) sc_token_from.nd rfl (Or.inl rfl) (pe_c (ok_blanks_end T) hr (pa_cons (pv 0) (pa_cons (pv 1) pa_nil))))
      (pss_cons (ps_if (pt_cmpR op_eq (pv 2) (pe_callB call_len (by rfl) T.n_len (by decide +kernel) (pa_cons (pv 0) pa_nil)) (nomark _)) (pss_one (ps_ret (pe_k T.k_Token (ok_Token___init__ T) hr (pa_cons (pe_cst T.m_END) (pa_cons (pe_lst pa_nil) (pa_cons (pv 2) (pa_cons (pv 2) pa_nil))))))) pss_nil)
      (pss_cons (ps_set (i := 3) sc_token_from.nd rfl (Or.inl rfl) (pe_ix ix_list (pv 0) (pv 2) (fun _ _ => rfl)))
      (pss_cons (ps_if (pt_val (pe_c (ok_is_letter T) hr (pa_cons (pv 3) pa_nil))) (pss_one (ps_ret (pe_c (ok_word_at T) hr (pa_cons (pv 0) (pa_cons (pv 2) pa_nil))))) pss_nil)
      (pss_cons (ps_if (pt_val (pe_c (ok_is_digit T) hr (pa_cons (pv 3) pa_nil))) (pss_one (ps_ret (pe_c (ok_number_at T) hr (pa_cons (pv 0) (pa_cons (pv 2) pa_nil))))) pss_nil)
      (pss_cons (ps_if (pt_cmpR op_eq (pv 3) (pe_cst T.m_QUOTE) (nomark _)) (pss_one (ps_ret (pe_c (ok_text_at T) hr (pa_cons (pv 0) (pa_cons (pv 2) pa_nil))))) pss_nil)
      (pss_cons (ps_if (pt_cmpR op_in_seq (pv 3) (pe_gref T.g_SIGNS) (by rfl)) (pss_one (ps_ret (pe_k T.k_Token (ok_Token___init__ T) hr (pa_cons (pe_cst T.m_SIGN) (pa_cons (pe_lst (pa_cons (pv 3) pa_nil)) (pa_cons (pv 2) (pa_cons (pe_op op_add (pv 2) pe_int) pa_nil))))))) pss_nil)
      (pss_one (ps_ret (pe_c (ok_no_token T) hr (pa_cons (pv 2) pa_nil))))))))))), ?_⟩
  obtain ⟨x0, x1, rfl, h⟩ := h
  obtain ⟨a, t, st, F, rfl, ha, hl, rfl, hs, hF, h⟩ := h
  have hle := skip_le hs
  refine ⟨_, rfl, _, rfl, _, _, rfl, a, t, st, rfl, ha, hl, rfl, hs, ?_⟩
  refine ⟨_, rfl, _, rfl, _, _, rfl, .inl ⟨_, ha, (bV_len t).symm⟩, rfl, _, rfl, ?_⟩
  unfold tkFrom tkAt at h
  by_cases q : skip t st = t.length
  · rw [decide_eq_true (show V.int (skip t st : Nat) = V.int (t.length : Nat) by rw [q])]
    rw [List.getElem?_eq_none_iff.mpr (by omega)] at h
    refine iteT ⟨(by show 0 ≤ sizeLine; decide), fun ra hra => ⟨_, rfl, _, rfl, fun x dx nx nd ne => ⟨_, _, _, _, _, rfl, x, dx, rfl, upd_same, rfl, ?_⟩⟩⟩
    exact tk_made (k := ⟨1, [], skip t st, skip t st⟩) ((Gr.refl hF).put hra) nx nd ne upd_same h
  · rw [decide_eq_false (show ¬ V.int (skip t st : Nat) = V.int (t.length : Nat) from fun z => q (by have := V.int.inj z; omega))]
    have lt : skip t st < t.length := by omega
    obtain ⟨c, hc⟩ := get_some lt
    rw [hc] at h
    replace h : Res H F Q (RTk K (if isLetter c = true then wordAt t (skip t st) else if isDigit c = true then numberAt t (skip t st) else if c = 34 then textAt t (skip t st) else if isSign c = true then ⟨5, [c], skip t st, skip t st + 1⟩ else noTk (skip t st))) := h
    refine iteF ⟨_, rfl, _, rfl, _, _, _, _, rfl, rfl, ha, at_bV hc, ?_⟩
    refine ⟨_, rfl, _, rfl, c, rfl, _, rfl, ?_⟩
    cases hl1 : isLetter c with
    | true =>
      rw [hl1, if_pos rfl] at h
      exact iteT ⟨_, rfl, _, rfl, _, _, rfl, a, t, skip t st, F, rfl, ha, hl, rfl, ⟨c, hc, hl1⟩, hF, h⟩
    | false =>
      rw [hl1, if_neg Bool.false_ne_true] at h
      refine iteF ⟨_, rfl, _, rfl, c, rfl, _, rfl, ?_⟩
      cases hd1 : isDigit c with
      | true =>
        rw [hd1, if_pos rfl] at h
        exact iteT ⟨_, rfl, _, rfl, _, _, rfl, a, t, skip t st, F, rfl, ha, hl, rfl, ⟨c, hc, hd1⟩, hF, h⟩
      | false =>
        rw [hd1, if_neg Bool.false_ne_true] at h
        refine iteF ⟨_, rfl, rfl, _, rfl, ?_⟩
        have d34 : decide (V.int (c.toNat : Int) = V.int 34) = decide (c = 34) := dec37 34 (by decide)
        rw [d34]
        by_cases q2 : c = 34
        · rw [if_pos q2] at h
          rw [decide_eq_true q2]
          exact iteT ⟨_, rfl, _, rfl, _, _, rfl, a, t, skip t st, F, rfl, ha, hl, rfl, ⟨c, hc, rfl⟩, hF, h⟩
        · rw [if_neg q2] at h
          rw [decide_eq_false q2]
          refine iteF ⟨_, rfl, _, _, rfl, .inr (T.t_SIGNS _), rfl, rfl, _, rfl, ?_⟩
          show if inV (.int (c.toNat : Int)) [.int 40, .int 41, .int 43, .int 44, .int 45, .int 47, .int 58, .int 59, .int 61] = true then _ else _
          rw [sign_in]
          cases hs1 : isSign c with
          | true =>
            rw [hs1, if_pos rfl] at h
            refine iteT ⟨_, rfl, (by show 1 ≤ sizeLine; decide), fun ra hra => ⟨_, rfl, _, rfl, _, _, rfl, rfl, fun x dx nx nd ne => ⟨_, _, _, _, _, rfl, x, dx, rfl, upd_same, rfl, ?_⟩⟩⟩
            exact tk_made (k := ⟨5, [c], skip t st, skip t st + 1⟩) ((Gr.refl hF).put hra) nx nd ne upd_same h
          | false =>
            rw [hs1, if_neg Bool.false_ne_true] at h
            exact iteF ⟨_, rfl, _, rfl, skip t st, F, rfl, hF, h⟩
end
end CB
end
section
set_option Elab.async false
set_option linter.all false
set_option maxRecDepth 100000
set_option maxHeartbeats 4000000
namespace CB
open PySem PySem.Spec PyProof.Rows L2
open LsText (Bytes)
open LsChain (Told Mark Set_ Book)
/-! ### books in the heap -/
def IsName (F : Hp) (a : Addr) (n : Bytes) : Prop := F a = some (.tup (bV n))
def entF (na : Addr) (e : LsChain.Entry) : List (Str × V) := [("chainage", .int (e.at_ : Int)), ("kind", .int (mkKind e.mark : Int)), ("name", .ref na), ("number", .int (mkNum e.mark : Int)), ("beside", .int (mkBes e.mark))]
def IsEnt (K : PySem.W.Frag) (F : Hp) (a : Addr) (e : LsChain.Entry) : Prop := ∃ dx na, F a = some (.ins (He.ga K "Entry") dx (entF na e)) ∧ IsName F na (mkName e.mark)
def linF (xa ya ea : Addr) (m : Nat) : List (Str × V) := [("first", .ref xa), ("second", .ref ya), ("measure", .int (m : Int)), ("entries", .ref ea)]
def IsLin (K : PySem.W.Frag) (F : Hp) (a : Addr) (l : LineT) : Prop := ∃ dx xa ya ea eas, F a = some (.ins (He.ga K "Line") dx (linF xa ya ea l.2.2.1)) ∧ IsName F xa l.1 ∧ IsName F ya l.2.1 ∧ F ea = some (.lst (rV eas)) ∧ All2 (IsEnt K F) eas l.2.2.2
def knoF (na : Addr) (x y : Nat) : List (Str × V) := [("name", .ref na), ("x", .int (x : Int)), ("y", .int (y : Int))]
def IsKno (K : PySem.W.Frag) (F : Hp) (a : Addr) (n : Bytes) (x y : Nat) : Prop := ∃ dx na, F a = some (.ins (He.ga K "Known") dx (knoF na x y)) ∧ IsName F na n
def IsTold (K : PySem.W.Frag) (F : Hp) (a : Addr) : Told → Prop
  | .known n x y => IsKno K F a n x y
  | .line x y m es => IsLin K F a (x, y, m, es)
def unM : Option (Nat × Nat) → Nat
  | some u => u.1
  | none => 0
def unL : Option (Nat × Nat) → Nat
  | some u => u.2
  | none => 0
def bokF (sa : Addr) (u : Option (Nat × Nat)) : List (Str × V) := [("metres", .int (unM u : Int)), ("links", .int (unL u : Int)), ("sentences", .ref sa)]
def IsBook (K : PySem.W.Frag) (F : Hp) (a : Addr) (b : Book) : Prop := WfB b ∧ ∃ dx sa sas, F a = some (.ins (He.ga K "Book") dx (bokF sa b.unit)) ∧ F sa = some (.lst (rV sas)) ∧ All2 (IsTold K F) sas b.told
def IsPair (K : PySem.W.Frag) (F : Hp) (a : Addr) (p : LineT × LsChain.Entry) : Prop := ∃ la ea, F a = some (.tup [.ref la, .ref ea]) ∧ IsLin K F la p.1 ∧ IsEnt K F ea p.2
section
variable {K : PySem.W.Frag} {F F' : Hp} {a : Addr}
theorem IsName.mono {n : Bytes} (s : Same F F') (h : IsName F a n) : IsName F' a n := s _ _ h
theorem IsEnt.mono {e : LsChain.Entry} (s : Same F F') : IsEnt K F a e → IsEnt K F' a e := fun ⟨dx, na, h1, h2⟩ => ⟨dx, na, s _ _ h1, h2.mono s⟩
theorem IsLin.mono {l : LineT} (s : Same F F') : IsLin K F a l → IsLin K F' a l := fun ⟨dx, xa, ya, ea, eas, h1, h2, h3, h4, h5⟩ => ⟨dx, xa, ya, ea, eas, s _ _ h1, h2.mono s, h3.mono s, s _ _ h4, h5.imp fun _ _ => IsEnt.mono s⟩
theorem IsKno.mono {n : Bytes} {x y : Nat} (s : Same F F') : IsKno K F a n x y → IsKno K F' a n x y := fun ⟨dx, na, h1, h2⟩ => ⟨dx, na, s _ _ h1, h2.mono s⟩
theorem IsTold.mono {t : Told} (s : Same F F') (h : IsTold K F a t) : IsTold K F' a t := by
  cases t with
  | known n x y => exact IsKno.mono s h
  | line x y m es => exact IsLin.mono s h
theorem IsBook.mono {b : Book} (s : Same F F') : IsBook K F a b → IsBook K F' a b := fun ⟨w, dx, sa, sas, h1, h2, h3⟩ => ⟨w, dx, sa, sas, s _ _ h1, s _ _ h2, h3.imp fun _ _ => IsTold.mono s⟩
theorem IsPair.mono {p : LineT × LsChain.Entry} (s : Same F F') : IsPair K F a p → IsPair K F' a p := fun ⟨la, ea, h1, h2, h3⟩ => ⟨la, ea, s _ _ h1, h2.mono s, h3.mono s⟩
end
/-! ### an object of one's own: new, and it may change -/
structure Own (H H' F' : Hp) (p : Addr) (o : HO) : Prop where
  new : H p = none
  at_ : H' p = some o
  out : F' p = none
section
variable {H F H1 F1 H2 F2 : Hp} {p q : Addr} {o o' u : HO}
theorem Own.first (g : Gr H F H1 F1) (n : H1 p = none) : Own H (upd H1 p o) F1 p o := ⟨g.keep.free n, upd_same, g.sub.free n⟩
theorem Own.go (w : Own H H1 F1 p o) (g : Gr H1 F1 H2 F2) : Own H H2 F2 p o := ⟨w.new, g.keep _ _ w.at_, (g.new _ _ w.at_).trans w.out⟩
theorem Own.set (w : Own H H1 F1 p o) : Own H (upd H1 p o') F1 p o' := ⟨w.new, upd_same, w.out⟩
theorem Own.other (w : Own H H1 F1 p o) (n : p ≠ q) : Own H (upd H1 q u) F1 p o := ⟨w.new, (upd_ne n).trans w.at_, w.out⟩
theorem Own.put (w : Own H H1 F1 p o) (n : H1 q = none) : Own H (upd H1 q u) (upd F1 q u) p o :=
  ⟨w.new, (upd_ne (ne_some w.at_ n)).trans w.at_, (upd_ne (ne_some w.at_ n)).trans w.out⟩
theorem Own.add (w : Own H H1 F1 p o) (n : H1 q = none) : Own H (upd H1 q u) F1 p o := ⟨w.new, (upd_ne (ne_some w.at_ n)).trans w.at_, w.out⟩
theorem Gr.own (g : Gr H F H1 F1) (w : Own H H1 F1 p o) : Gr H F (upd H1 p o') F1 := g.mut w.new w.out
end
/-- picked by what they stand for -/
def selA {α : Type} (q : α → Bool) (as : List Addr) (ts : List α) : List Addr := ((as.zip ts).filter fun z => q z.2).map (·.1)
theorem selA_all {α : Type} {R : Addr → α → Prop} {q : α → Bool} : ∀ {as : List Addr} {ts : List α}, All2 R as ts → All2 R (selA q as ts) (ts.filter q)
  | _, _, .nil => .nil
  | a :: as, t :: ts, .cons h r => by
    have ih := selA_all (q := q) r
    unfold selA at *
    rw [List.zip_cons_cons, List.filter_cons, List.filter_cons]
    cases e : q t with
    | true => exact .cons h ih
    | false => exact ih
theorem selA_len {α : Type} (q : α → Bool) (as : List Addr) (ts : List α) : (selA q as ts).length ≤ ts.length := by
  unfold selA
  rw [List.length_map]
  refine Nat.le_trans (List.length_filter_le _ _) ?_
  rw [List.length_zip]
  exact Nat.min_le_right _ _
theorem selA_snoc {α : Type} {q : α → Bool} {as : List Addr} {ts : List α} {i : Nat} {a : Addr} {t : α} (ha : as[i]? = some a) (ht : ts[i]? = some t) :
    selA q (as.take (i + 1)) (ts.take (i + 1)) = if q t = true then selA q (as.take i) (ts.take i) ++ [a] else selA q (as.take i) (ts.take i) := by
  have la : (as.take i).length = (ts.take i).length := by
    have := (List.getElem?_eq_some_iff.mp ha).1
    have := (List.getElem?_eq_some_iff.mp ht).1
    rw [List.length_take, List.length_take]
    omega
  rw [take_snoc ha, take_snoc ht]
  unfold selA
  rw [List.zip_append la, List.filter_append, List.map_append]
  cases e : q t with
  | true => simp [e]
  | false => simp [e]
theorem rV_snoc (as : List Addr) (a : Addr) : rV (as ++ [a]) = rV as ++ [V.ref a] := by
  unfold rV
  rw [List.map_append]
  rfl
theorem rV_len (as : List Addr) : (rV as).length = as.length := List.length_map _
theorem rV_at {as : List Addr} {i : Nat} {a : Addr} (h : as[i]? = some a) : (rV as)[i]? = some (.ref a) := by
  unfold rV
  rw [List.getElem?_map, h]
  rfl
theorem small_line {n : Nat} (h : n ≤ 100000) : n < sizeLine := by
  rw [sizeLine_eq]
  omega
theorem small_line' {n : Nat} (h : n ≤ 100000) : n ≤ sizeLine := Nat.le_of_lt (small_line h)
theorem rV_empty (as : List Addr) : (rV as).isEmpty = as.isEmpty := by cases as <;> rfl
theorem all2_empty {α β : Type} {R : α → β → Prop} : ∀ {l : List α} {r : List β}, All2 R l r → l.isEmpty = r.isEmpty
  | _, _, .nil => rfl
  | _, _, .cons _ _ => rfl
/-! ### promises -/
def spUnit (K : PySem.W.Frag) (f : Book → Bool) : Sp := sp1 fun x H Q _ => ∃ (a : Addr) (b : Book), x = .ref a ∧ IsBook K H a b ∧ Q (.bl (f b)) H
def hasUnit (b : Book) : Bool := b.unit.isSome
def nothingTold (b : Book) : Bool := !hasUnit b && b.told.isEmpty
def spEmpty (K : PySem.W.Frag) : Sp := sp0 fun H Q _ => ∃ F, Same F H ∧ Res H F Q (fun F2 v => ∃ p, v = .ref p ∧ IsBook K F2 p LsChain.empty)
/-- a new list of old objects that stand for xs -/
def RetF {α : Type} (R : Hp → Addr → α → Prop) (F : Hp) (xs : List α) (H : Hp) (Q : VK) : Prop := ∀ p H2 as, H p = none → Same H H2 → H2 p = some (.lst (rV as)) → All2 (R F) as xs → Q (.ref p) H2
def spKnowns (K : PySem.W.Frag) : Sp := sp1 fun x H Q _ => ∃ (a : Addr) (b : Book) (F : Hp), x = .ref a ∧ IsBook K F a b ∧ Same F H ∧ RetF (IsTold K) F (b.told.filter isKnownT) H Q
def spLines (K : PySem.W.Frag) : Sp := sp1 fun x H Q _ => ∃ (a : Addr) (b : Book) (F : Hp), x = .ref a ∧ IsBook K F a b ∧ Same F H ∧ RetF (IsLin K) F b.lines H Q
def RPairs (K : PySem.W.Frag) (xs : List (LineT × LsChain.Entry)) : Hp → V → Prop := fun F v => ∃ p ps, v = .ref p ∧ F p = some (.lst (rV ps)) ∧ All2 (IsPair K F) ps xs
def spEntries (K : PySem.W.Frag) : Sp := sp1 fun x H Q _ => ∃ (a : Addr) (b : Book) (F : Hp), x = .ref a ∧ IsBook K F a b ∧ Same F H ∧ Res H F Q (RPairs K (entriesL b))
def metL (b : Book) (k : Nat) : List (LineT × LsChain.Entry) := (entriesL b).filter fun p => mkKind p.2.mark == k
def spMet (K : PySem.W.Frag) : Sp := sp2 fun x y H Q _ => ∃ (a : Addr) (b : Book) (k : Nat) (F : Hp), x = .ref a ∧ y = .int (k : Int) ∧ IsBook K F a b ∧ Same F H ∧ Res H F Q (RPairs K (metL b k))
def spNamesSet (K : PySem.W.Frag) : Sp := sp1 fun x H Q _ => ∃ (a : Addr) (b : Book) (F : Hp), x = .ref a ∧ IsBook K F a b ∧ Same F H ∧ RetF IsName F (b.sets.map (·.1)) H Q
def spNamesTold (K : PySem.W.Frag) : Sp := sp1 fun x H Q _ => ∃ (a : Addr) (b : Book) (F : Hp), x = .ref a ∧ IsBook K F a b ∧ Same F H ∧ RetF IsName F b.names H Q
section
variable {P : Program} {w : World} {K : PySem.W.Frag} {mg : Str → Option Value} {base : Heap}
theorem wf_empty : WfB LsChain.empty where
  unit := fun u h => by cases h
  told := fun t h => absurd h (by simp [LsChain.empty])
  nd := by simp [LsChain.Book.sets, LsChain.empty]
  s64 := by simp [LsChain.Book.sets, LsChain.empty]
  l64 := by simp [LsChain.Book.lines, LsChain.empty]
  e512 := by simp [LsChain.Book.entries, LsChain.Book.lines, LsChain.empty]
theorem ok_empty_book (T : Txt K mg) : Ok P w K mg base CX0 3 ("empty_book", none) [] (spEmpty K) := by
  refine mk_ok T 4 rfl sc_empty_book T.g_empty_book (fun _ _ _ _ _ _ us hl => match us, hl with | [], _ => rfl) len0 (fun cdv A outer s H vs Q E hr h => ?_)
  refine ⟨_, (pss_one (ps_ret (pe_k T.k_Book (ok_Book___init__ T) hr (pa_cons pe_int (pa_cons pe_int (pa_cons (pe_lst pa_nil) pa_nil)))))), ?_⟩
  obtain ⟨rfl, h⟩ := h
  obtain ⟨F, hF, h⟩ := h
  refine ⟨(by show 0 ≤ sizeLine; decide), fun sa hs => fun x dx nx nd ne => ⟨_, _, _, _, rfl, x, dx, rfl, upd_same, rfl, ?_⟩⟩
  refine h _ _ _ (((Gr.refl hF).put hs).made nx nd ne) ⟨x, rfl, wf_empty, dx, sa, [], upd_same, ?_, .nil⟩
  rw [upd_ne (ne_some upd_same nx)]
  exact upd_same
theorem unL_pos {b : Book} (h : WfB b) : decide ((0 : Int) < (unL b.unit : Int)) = hasUnit b := by
  unfold hasUnit
  cases e : b.unit with
  | none => rfl
  | some u =>
    have := (h.unit u e).2.2.1
    exact decide_eq_true (show (0 : Int) < (u.2 : Int) by omega)
theorem ok_has_unit (T : Txt K mg) : Ok P w K mg base CX0 1 ("has_unit", none) ["book"] (spUnit K hasUnit) := by
  refine mk_ok T 5 rfl sc_has_unit T.g_has_unit (fun _ _ _ _ _ _ us hl => match us, hl with | [_], _ => rfl) len1 (fun cdv A outer s H vs Q E hr h => ?_)
  refine ⟨_, (pss_one (ps_ret (pe_cmpR op_gt (pe_fld (pv 0) rfl) pe_int (nomark _)))), ?_⟩
  obtain ⟨x0, rfl, h⟩ := h
  obtain ⟨a, b, rfl, ⟨wf, dx, sa, sas, h1, h2, h3⟩, h⟩ := h
  refine ⟨_, rfl, a, _, dx, _, _, rfl, h1, T.c_Book, T.a_Book_links, rfl, _, _, rfl, rfl, ?_⟩
  rw [← unL_pos wf] at h
  exact h
theorem ok_is_nothing_told (T : Txt K mg) : Ok P w K mg base CX0 2 ("is_nothing_told", none) ["book"] (spUnit K nothingTold) := by
  refine mk_ok T 6 rfl sc_is_nothing_told T.g_is_nothing_told (fun _ _ _ _ _ _ us hl => match us, hl with | [_], _ => rfl) len1 (fun cdv A outer s H vs Q E hr h => ?_)
  refine ⟨_, (pss_one (ps_ret (pe_and (pe_not (pe_c (ok_has_unit T) hr (pa_cons (pv 0) pa_nil))) (pe_one (pe_notT (pe_fld (pv 0) rfl)))))), ?_⟩
  obtain ⟨x0, rfl, h⟩ := h
  obtain ⟨a, b, rfl, hb, h⟩ := h
  have hb' := hb
  obtain ⟨wf, dx, sa, sas, h1, h2, h3⟩ := hb'
  refine ⟨_, rfl, _, rfl, a, b, rfl, hb, _, rfl, _, rfl, ?_⟩
  unfold nothingTold at h
  cases e : hasUnit b with
  | true =>
    rw [e] at h
    exact iteF h
  | false =>
    rw [e] at h
    refine iteT ⟨_, rfl, a, _, dx, _, _, rfl, h1, T.c_Book, T.a_Book_sentences, rfl, _, .inl ⟨_, .of h2, rfl⟩, ?_⟩
    have q : (!(!(rV sas).isEmpty)) = (!false && b.told.isEmpty) := by
      rw [Bool.not_not, rV_empty, all2_empty h3]
      rfl
    rw [← q] at h
    exact h
theorem told_isKnown (T : Txt K mg) {H : Hp} {a : Addr} {t : Told} (h : IsTold K H a t) {Q : VK} (q : Q (.bl (isKnownT t)) H) : rIsi K [.ref a, .ref (He.ga K "Known")] H Q := by
  cases t with
  | known n x y =>
    obtain ⟨dx, na, h1, h2⟩ := h
    exact xIsi_ok (He.ba T.isis).1 T.c_Known h1 q
  | line x y m es =>
    obtain ⟨dx, xa, ya, ea, eas, h1, _⟩ := h
    exact xIsi_ok (He.ba (He.ba (He.ba T.isis).2).2).1 T.c_Line h1 q
theorem told_isLine (T : Txt K mg) {H : Hp} {a : Addr} {t : Told} (h : IsTold K H a t) {Q : VK} (q : Q (.bl (isLineT t)) H) : rIsi K [.ref a, .ref (He.ga K "Line")] H Q := by
  cases t with
  | known n x y =>
    obtain ⟨dx, na, h1, h2⟩ := h
    exact xIsi_ok (He.ba (He.ba T.isis).2).1 T.c_Known h1 q
  | line x y m es =>
    obtain ⟨dx, xa, ya, ea, eas, h1, _⟩ := h
    exact xIsi_ok (He.ba (He.ba (He.ba T.isis).2).2).2 T.c_Line h1 q
theorem ok_knowns_of (T : Txt K mg) : Ok P w K mg base CX0 1 ("knowns_of", none) ["book"] (spKnowns K) := by
  refine mk_ok T 7 rfl sc_knowns_of T.g_knowns_of (fun _ _ _ _ _ _ us hl => match us, hl with | [_], _ => rfl) len1 (fun cdv A outer s H vs Q E hr h => ?_)
  refine ⟨_, (pss_one (ps_ret (pe_lc (own := [("sentence", 1)]) (g := (gName 1)) (tt := (tB (tCB (rIsi K) (tCons (tVar 1) (tCons (tC (.ref (He.ga K "Known"))) tNil))))) (te := (tVar 1)) rfl sc_knowns_of.nd (pi_list (pe_fld (pv 0) rfl)) (blkOk_by (own := [("sentence", 1)]) (N := N_knowns_of) (sc := defScope s_knowns_of) (by decide +kernel)) (fun _ _ _ _ _ => (pg_name (i := 1) sc_knowns_of.nd rfl (Or.inl rfl))) (fun _ _ _ _ _ => (pts_one (pt_val (pe_callB call_isi (by rfl) T.n_isinstance (by decide +kernel) (pa_cons (pv 1) (pa_cons (pe_gref T.g_Known) pa_nil)))))) (fun _ _ _ _ _ => (pv 1))))), ?_⟩
  obtain ⟨x0, rfl, h⟩ := h
  obtain ⟨a, b, F, rfl, ⟨wf, dx, sa, sas, h1, h2, h3⟩, hF, h⟩ := h
  refine ⟨_, rfl, a, _, dx, _, _, rfl, hF _ _ h1, T.c_Book, T.a_Book_sentences, rfl, sa, rfl, ⟨_, .of (hF _ _ h2)⟩, fun D hD => ?_⟩
  refine lc_list (K := K) (a := sa) (xs := rV sas) (fun i H' => H' = upd H D (.lst (rV (selA isKnownT (sas.take i) (b.told.take i))))) rfl ?_ ?_ ?_
  · rintro i H' _ rfl
    exact .of (by rw [upd_ne (ne_some (hF _ _ h2) hD)]; exact hF _ _ h2)
  · rintro i x H' hx rfl
    obtain ⟨q, hq, rfl⟩ := rV_get hx
    obtain ⟨t, ht, hT⟩ := h3.get hq
    have s2 : Same F (upd H D (.lst (rV (selA isKnownT (sas.take i) (b.told.take i))))) := same_upd2 hF hD
    refine ⟨rfl, _, rfl, ?_⟩
    dsimp only [tCons, tC, tNil]
    refine told_isKnown T (hT.mono s2) ?_
    refine ⟨_, rfl, ?_⟩
    have e := selA_snoc (q := isKnownT) hq ht
    cases k : isKnownT t with
    | true =>
      rw [k, if_pos rfl] at e
      refine iteT ⟨_, rfl, _, upd_same, ?_, ?_⟩
      · rw [rV_len]
        refine small_line (Nat.le_trans (selA_len _ _ _) ?_)
        rw [List.length_take]
        have := wf.told128
        omega
      · rw [upd_upd, e, rV_snoc]
    | false =>
      rw [k, if_neg Bool.false_ne_true] at e
      refine iteF ?_
      rw [e]
  · rintro H' rfl
    refine h D _ _ hD (same_upd hD) upd_same ?_
    rw [rV_len, List.take_length, h3.len, List.take_length]
    exact selA_all h3
theorem lines_filter : ∀ ts : List Told, All2 (fun t (l : LineT) => t = .line l.1 l.2.1 l.2.2.1 l.2.2.2) (ts.filter isLineT) (ts.filterMap LsChain.lineOf)
  | [] => .nil
  | t :: ts => by
    rw [List.filter_cons]
    cases t with
    | known n x y => exact lines_filter ts
    | line a b m es =>
      rw [List.filterMap_cons_some (b := (a, b, m, es)) (by rfl)]
      exact .cons rfl (lines_filter ts)
theorem All2.comp {α β γ : Type} {R : α → β → Prop} {S : β → γ → Prop} {U : α → γ → Prop} (f : ∀ a b c, R a b → S b c → U a c) : ∀ {l : List α} {m : List β} {r : List γ}, All2 R l m → All2 S m r → All2 U l r
  | _, _, _, .nil, .nil => .nil
  | _, _, _, .cons h t, .cons h' t' => .cons (f _ _ _ h h') (All2.comp f t t')
theorem ok_lines_of (T : Txt K mg) : Ok P w K mg base CX0 1 ("lines_of", none) ["book"] (spLines K) := by
  refine mk_ok T 8 rfl sc_lines_of T.g_lines_of (fun _ _ _ _ _ _ us hl => match us, hl with | [_], _ => rfl) len1 (fun cdv A outer s H vs Q E hr h => ?_)
  refine ⟨_, (pss_one (ps_ret (pe_lc (own := [("sentence", 1)]) (g := (gName 1)) (tt := (tB (tCB (rIsi K) (tCons (tVar 1) (tCons (tC (.ref (He.ga K "Line"))) tNil))))) (te := (tVar 1)) rfl sc_lines_of.nd (pi_list (pe_fld (pv 0) rfl)) (blkOk_by (own := [("sentence", 1)]) (N := N_lines_of) (sc := defScope s_lines_of) (by decide +kernel)) (fun _ _ _ _ _ => (pg_name (i := 1) sc_lines_of.nd rfl (Or.inl rfl))) (fun _ _ _ _ _ => (pts_one (pt_val (pe_callB call_isi (by rfl) T.n_isinstance (by decide +kernel) (pa_cons (pv 1) (pa_cons (pe_gref T.g_Line) pa_nil)))))) (fun _ _ _ _ _ => (pv 1))))), ?_⟩
  obtain ⟨x0, rfl, h⟩ := h
  obtain ⟨a, b, F, rfl, ⟨wf, dx, sa, sas, h1, h2, h3⟩, hF, h⟩ := h
  refine ⟨_, rfl, a, _, dx, _, _, rfl, hF _ _ h1, T.c_Book, T.a_Book_sentences, rfl, sa, rfl, ⟨_, .of (hF _ _ h2)⟩, fun D hD => ?_⟩
  refine lc_list (K := K) (a := sa) (xs := rV sas) (fun i H' => H' = upd H D (.lst (rV (selA isLineT (sas.take i) (b.told.take i))))) rfl ?_ ?_ ?_
  · rintro i H' _ rfl
    exact .of (by rw [upd_ne (ne_some (hF _ _ h2) hD)]; exact hF _ _ h2)
  · rintro i x H' hx rfl
    obtain ⟨q, hq, rfl⟩ := rV_get hx
    obtain ⟨t, ht, hT⟩ := h3.get hq
    have s2 : Same F (upd H D (.lst (rV (selA isLineT (sas.take i) (b.told.take i))))) := same_upd2 hF hD
    refine ⟨rfl, _, rfl, ?_⟩
    dsimp only [tCons, tC, tNil]
    refine told_isLine T (hT.mono s2) ?_
    refine ⟨_, rfl, ?_⟩
    have e := selA_snoc (q := isLineT) hq ht
    cases k : isLineT t with
    | true =>
      rw [k, if_pos rfl] at e
      refine iteT ⟨_, rfl, _, upd_same, ?_, ?_⟩
      · rw [rV_len]
        refine small_line (Nat.le_trans (selA_len _ _ _) ?_)
        rw [List.length_take]
        have := wf.told128
        omega
      · rw [upd_upd, e, rV_snoc]
    | false =>
      rw [k, if_neg Bool.false_ne_true] at e
      refine iteF ?_
      rw [e]
  · rintro H' rfl
    refine h D _ _ hD (same_upd hD) upd_same ?_
    rw [rV_len, List.take_length, h3.len, List.take_length]
    exact (selA_all h3).comp (fun x t l hx e => by subst e; exact hx) (lines_filter b.told)
end
end CB
end
section
set_option Elab.async false
set_option linter.all false
set_option maxRecDepth 100000
set_option maxHeartbeats 4000000
namespace CB
open PySem PySem.Spec PyProof.Rows L2
open LsText (Bytes)
open LsChain (Told Mark Set_ Book)
section
variable {P : Program} {w : World} {K : PySem.W.Frag} {mg : Str → Option Value} {base : Heap}
theorem yes {σ : L2.St} {H : Hp} {R : Bool → Hp → Prop} (h : R true H) : tYes σ H R := h
theorem ok_entries_of (T : Txt K mg) : Ok P w K mg base CX0 2 ("entries_of", none) ["book"] (spEntries K) := by
  refine mk_ok T 9 rfl sc_entries_of T.g_entries_of (fun _ _ _ _ _ _ us hl => match us, hl with | [_], _ => rfl) len1 (fun cdv A outer s H vs Q E hr h => ?_)
  refine ⟨_, (pss_cons (ps_set (i := 1) sc_entries_of.nd rfl (Or.inl rfl) (pe_lst pa_nil))
      (pss_cons (ps_for PassesOwn.never rfl (pi_list (pe_c (ok_lines_of T) hr (pa_cons (pv 0) pa_nil))) (pg_name (i := 2) sc_entries_of.nd rfl (Or.inr rfl))
      (pss_one (ps_expr (pe_bm PySem.F.plainAttrs_list PySem.F.slot_list_extend PySem.F.type_list_extend mt_extend (pv 1) (pa_cons (pe_lc (own := [("entry", 3)]) (g := (gName 3)) (tt := tYes) (te := (tTup (tCons (tVar 2) (tCons (tVar 3) tNil)))) rfl sc_entries_of.nd (pi_list (pe_fld (pv 2) rfl)) (blkOk_by (own := [("entry", 3)]) (N := N_entries_of) (sc := defScope s_entries_of) (by decide +kernel)) (fun _ _ _ _ _ => (pg_name (i := 3) sc_entries_of.nd rfl (Or.inl rfl))) (fun _ _ _ _ _ => pts_nil) (fun _ _ _ _ _ => (pe_tup (pa_cons (pv 2) (pa_cons (pv 3) pa_nil))))) pa_nil)))))
      (pss_one (ps_ret (pv 1))))), ?_⟩
  obtain ⟨x0, rfl, h⟩ := h
  obtain ⟨a, b, F, rfl, hb, hF, h⟩ := h
  have wf := hb.1
  refine ⟨(by show 0 ≤ sizeLine; decide), fun fd hfd => ?_⟩
  have g0 : Gr H F (upd H fd (.lst [])) F := (Gr.refl hF).add hfd
  refine ⟨_, rfl, _, rfl, a, b, F, rfl, hb, g0.sub, fun la H2 ls hla s2 e2 hls => ?_⟩
  have g1 : Gr (upd H fd (.lst [])) F H2 F := ⟨s2, Same.refl _, g0.sub.trans s2, fun _ _ _ => rfl⟩
  have o1 : Own H H2 F fd (.lst []) := (Own.first (Gr.refl hF) hfd).go g1
  refine ⟨la, rfl, ⟨_, .of e2⟩, for_list (K := K) (a := la) (xs := rV ls) (fun i σ H' => ∃ F1 ps v u, σ = [some (.ref a), some (.ref fd), v, u] ∧ Gr H F H' F1 ∧ Own H H' F1 fd (.lst (rV ps)) ∧ H' la = some (.lst (rV ls)) ∧ All2 (IsPair K F1) ps (ents (b.lines.take i))) ⟨F, [], none, none, rfl, g0.trans g1, o1, e2, .nil⟩ ?_ ?_ ?_⟩
  · rintro i σ H' _ ⟨F1, ps, v, u, rfl, g, o, hl, hp⟩
    exact .of hl
  · rintro i x σ H' hx ⟨F1, ps, v, u, rfl, g, o, hl, hp⟩
    obtain ⟨q, hq, rfl⟩ := rV_get hx
    obtain ⟨l, hl1, hL⟩ := hls.get hq
    have hL1 := hL.mono g.fr
    obtain ⟨dx, xa, ya, ea, eas, k1, k2, k3, k4, k5⟩ := hL1
    have hmem : l ∈ b.lines := List.mem_of_getElem? hl1
    refine ⟨_, rfl, .inl ⟨rfl, _, SqL.of o.at_⟩, _, rfl, q, _, dx, _, _, rfl, g.sub _ _ k1, T.c_Line, T.a_Line_entries, rfl, ea, rfl, ⟨_, .of (g.sub _ _ k4)⟩, fun D hD => ?_⟩
    refine lc_list (K := K) (a := ea) (xs := rV eas) (fun j H'' => ∃ F2 qs, Gr H' F1 H'' F2 ∧ Own H' H'' F2 D (.lst (rV qs)) ∧ All2 (IsPair K F2) qs ((l.2.2.2.take j).map fun e => (l, e))) ⟨F1, [], (Gr.refl g.sub).add hD, Own.first (Gr.refl g.sub) hD, .nil⟩ ?_ ?_ ?_
    · rintro j H'' _ ⟨F2, qs, g2, o2, hq2⟩
      exact .of (g2.keep _ _ (g.sub _ _ k4))
    · rintro j y H'' hy ⟨F2, qs, g2, o2, hq2⟩
      obtain ⟨r, hr1, rfl⟩ := rV_get hy
      obtain ⟨e, he, hE⟩ := k5.get hr1
      refine ⟨rfl, yes ?_⟩
      refine iteT ?_
      refine ⟨_, rfl, _, rfl, (by show 2 ≤ sizeLine; decide), fun t ht => ?_⟩
      have g3 := g2.put (o := .tup [.ref q, .ref r]) ht
      have o3 := o2.put (u := .tup [.ref q, .ref r]) ht
      refine ⟨_, o3.at_, ?_, upd F2 t (.tup [.ref q, .ref r]), qs ++ [t], g3.own o3, ?_, ?_⟩
      · rw [rV_len, hq2.len, List.length_map, List.length_take]
        have := line_entries wf hmem
        exact small_line (by omega)
      · rw [rV_snoc]
        exact o3.set
      · rw [take_snoc he, List.map_append]
        refine All2.snoc (hq2.imp fun _ _ => IsPair.mono (same_upd (free_sub g2.sub ht))) ⟨q, r, upd_same, ?_, ?_⟩
        · exact (hL.mono (g.fr.trans (g2.fr))).mono (same_upd (free_sub g2.sub ht))
        · exact (hE.mono g2.fr).mono (same_upd (free_sub g2.sub ht))
    · rintro H'' ⟨F2, qs, g2, o2, hq2⟩
      rw [rV_len, k5.len, List.take_length] at hq2
      have o3 := o.go g2
      refine ⟨fd, D, _, _, rfl, rfl, o3.at_, o2.at_, ?_, ?_⟩
      · rw [rV_len, rV_len, hp.len, hq2.len, List.length_map]
        have e1 := ents_le b.lines i
        have e2 : (ents b.lines).length = b.entries := entries_len b
        have e3 := wf.e512
        have := line_entries wf hmem
        exact small_line' (by omega)
      · refine ⟨F2, ps ++ qs, some (.ref q), u, rfl, (g.trans g2).own o3, ?_, ?_, ?_⟩
        · have : rV ps ++ rV qs = rV (ps ++ qs) := (List.map_append (f := V.ref)).symm
          rw [this]
          exact o3.set
        · rw [upd_ne (fun z => ?_)]
          · exact g2.keep _ _ hl
          · rw [z] at hla
            rw [upd_same] at hla
            cases hla
        · rw [ents_snoc hl1]
          exact (hp.imp fun _ _ => IsPair.mono g2.fr).app hq2
  · rintro σ H' ⟨F1, ps, v, u, rfl, g, o, hl, hp⟩
    rw [rV_len, hls.len, List.take_length] at hp
    refine ⟨_, rfl, h _ _ _ (g.freeze o.new o.out o.at_) ⟨fd, ps, rfl, upd_same, hp.imp fun _ _ => IsPair.mono (same_upd o.out)⟩⟩
theorem ok_met_of (T : Txt K mg) : Ok P w K mg base CX0 3 ("met_of", none) ["book", "kind"] (spMet K) := by
  refine mk_ok T 10 rfl sc_met_of T.g_met_of (fun _ _ _ _ _ _ us hl => match us, hl with | [_, _], _ => rfl) len2 (fun cdv A outer s H vs Q E hr h => ?_)
  refine ⟨_, (pss_one (ps_ret (pe_lc (own := [("line", 2), ("entry", 3)]) (g := (gTup K 2 (gCons (gName 2) (gCons (gName 3) gNil)))) (tt := (tTest (tOp rEq (tFld K (tVar 3) "kind") (tVar 1)))) (te := (tTup (tCons (tVar 2) (tCons (tVar 3) tNil)))) rfl sc_met_of.nd (pi_list (pe_c (ok_entries_of T) hr (pa_cons (pv 0) pa_nil))) (blkOk_by (own := [("line", 2), ("entry", 3)]) (N := N_met_of) (sc := defScope s_met_of) (by decide +kernel)) (fun _ _ _ _ _ => (pg_tup (by rfl) (pgs_cons (pg_name (i := 2) sc_met_of.nd rfl (Or.inl rfl)) (pgs_cons (pg_name (i := 3) sc_met_of.nd rfl (Or.inl rfl)) pgs_nil)))) (fun _ _ _ _ _ => (pts_one (pt_cmpR op_eq (pe_fld (pv 3) rfl) (pv 1) (nomark _)))) (fun _ _ _ _ _ => (pe_tup (pa_cons (pv 2) (pa_cons (pv 3) pa_nil))))))), ?_⟩
  obtain ⟨x0, x1, rfl, h⟩ := h
  obtain ⟨a, b, k, F, rfl, rfl, hb, hF, h⟩ := h
  have wf := hb.1
  refine ⟨_, rfl, _, rfl, a, b, F, rfl, hb, hF, ?_⟩
  rintro _ H1 F1 g1 ⟨pa, ps, rfl, hpa, hps⟩
  refine ⟨pa, rfl, ⟨_, .of (g1.sub _ _ hpa)⟩, fun D hD => ?_⟩
  refine lc_list (K := K) (a := pa) (xs := rV ps) (fun j H'' => ∃ F2 qs, Gr H1 F1 H'' F2 ∧ Own H1 H'' F2 D (.lst (rV qs)) ∧ All2 (IsPair K F2) qs (((entriesL b).take j).filter fun p => mkKind p.2.mark == k)) ⟨F1, [], (Gr.refl g1.sub).add hD, Own.first (Gr.refl g1.sub) hD, .nil⟩ ?_ ?_ ?_
  · rintro j H'' _ ⟨F2, qs, g2, o2, hq2⟩
    exact .of (g2.keep _ _ (g1.sub _ _ hpa))
  · rintro j y H'' hy ⟨F2, qs, g2, o2, hq2⟩
    obtain ⟨r, hr1, rfl⟩ := rV_get hy
    obtain ⟨p, hp, hP⟩ := hps.get hr1
    obtain ⟨la, ea, t1, t2, t3⟩ := hP.mono g2.fr
    have t3' := t3
    obtain ⟨dx, na, e1, e2⟩ := t3'
    refine ⟨r, _, rfl, .of (g2.sub _ _ t1), rfl, _, _, rfl, _, _, rfl, rfl, rfl, ?_⟩
    refine ⟨_, rfl, ea, _, dx, _, _, rfl, g2.sub _ _ e1, T.c_Entry, T.a_Entry_kind, rfl, _, rfl, rfl, _, rfl, ?_⟩
    have d : decide (V.int (mkKind p.2.mark : Int) = V.int (k : Int)) = (mkKind p.2.mark == k) := bool_eq (by
      rw [decide_eq_true_eq, beq_iff_eq]
      exact ⟨fun z => by have := V.int.inj z; omega, fun z => by rw [z]⟩)
    rw [d]
    have ft : ((entriesL b).take (j + 1)).filter (fun p => mkKind p.2.mark == k) = ((entriesL b).take j).filter (fun p => mkKind p.2.mark == k) ++ [p].filter (fun p => mkKind p.2.mark == k) := by
      rw [take_snoc hp, List.filter_append]
    cases q : (mkKind p.2.mark == k) with
    | true =>
      refine iteT ⟨_, rfl, _, rfl, (by show 2 ≤ sizeLine; decide), fun t ht => ?_⟩
      have g3 := g2.put (o := .tup [.ref la, .ref ea]) ht
      have o3 := o2.put (u := .tup [.ref la, .ref ea]) ht
      refine ⟨_, o3.at_, ?_, upd F2 t (.tup [.ref la, .ref ea]), qs ++ [t], g3.own o3, ?_, ?_⟩
      · rw [rV_len, hq2.len]
        have l1 := List.length_filter_le (fun p : LineT × LsChain.Entry => mkKind p.2.mark == k) ((entriesL b).take j)
        rw [List.length_take] at l1
        have l2 := entries_len b
        have l3 := wf.e512
        exact small_line (by omega)
      · rw [rV_snoc]
        exact o3.set
      · rw [ft]
        have : [p].filter (fun p => mkKind p.2.mark == k) = [p] := by simp [q]
        rw [this]
        exact All2.snoc (hq2.imp fun _ _ => IsPair.mono (same_upd (free_sub g2.sub ht))) ⟨la, ea, upd_same, t2.mono (same_upd (free_sub g2.sub ht)), t3.mono (same_upd (free_sub g2.sub ht))⟩
    | false =>
      refine iteF ⟨F2, qs, g2, o2, ?_⟩
      rw [ft]
      have : [p].filter (fun p => mkKind p.2.mark == k) = [] := by simp [q]
      rw [this, List.append_nil]
      exact hq2
  · rintro H'' ⟨F2, qs, g2, o2, hq2⟩
    rw [rV_len, hps.len, List.take_length] at hq2
    exact h _ _ _ ((g1.trans (g2.freeze o2.new o2.out o2.at_))) ⟨D, qs, rfl, upd_same, hq2.imp fun _ _ => IsPair.mono (same_upd o2.out)⟩
end
end CB
end
section
set_option Elab.async false
set_option linter.all false
set_option maxRecDepth 100000
set_option maxHeartbeats 4000000
namespace CB
open PySem PySem.Spec PyProof.Rows L2
open LsText (Bytes)
open LsChain (Told Mark Set_ Book)
/-! ### names as data -/
def bD (t : Bytes) : List PyData := t.map fun c => PyData.int (c.toNat : Int)
def nmD (n : Bytes) : PyData := .tuple (bD n)
theorem bD_lay : ∀ t : Bytes, PyData.canLayAll0 (bD t) = true
  | [] => by simp [bD, PyData.canLayAll0]
  | c :: t => by
    have := bD_lay t
    unfold bD at *
    simp [PyData.canLayAll0, PyData.canLay0, this]
theorem bD_depth : ∀ t : Bytes, PyData.depthAll (bD t) = 0
  | [] => by simp [bD, PyData.depthAll]
  | c :: t => by
    have := bD_depth t
    unfold bD at *
    simp [PyData.depthAll, PyData.depth, this]
theorem shaped_of {d : PyData} (h1 : d.canLay0 = true) (h2 : d.depth ≤ 64) : SeqAt.shaped d = true := by
  show (d.canLay0 && decide (d.depth ≤ 64)) = true
  rw [Bool.and_eq_true]
  exact ⟨h1, decide_eq_true h2⟩
theorem nmD_lay (n : Bytes) : (nmD n).canLay0 = true := by
  unfold nmD
  simp only [PyData.canLay0]
  exact bD_lay n
theorem nmD_depth (n : Bytes) : (nmD n).depth = 1 := by
  unfold nmD
  simp only [PyData.depth, bD_depth]
theorem nmD_shaped (n : Bytes) : SeqAt.shaped (nmD n) = true := shaped_of (nmD_lay n) (by rw [nmD_depth]; decide)
theorem bL_shaped (n : Bytes) : SeqAt.shaped (.list (bD n)) = true := shaped_of (by simp only [PyData.canLay0]; exact bD_lay n) (by simp only [PyData.depth, bD_depth]; decide)
theorem nms_lay : ∀ ns : List Bytes, PyData.canLayAll0 (ns.map nmD) = true
  | [] => by simp [PyData.canLayAll0]
  | n :: ns => by simp [PyData.canLayAll0, nmD_lay n, nms_lay ns]
theorem nms_depth : ∀ ns : List Bytes, PyData.depthAll (ns.map nmD) ≤ 1
  | [] => by simp [PyData.depthAll]
  | n :: ns => by
    have h1 := nms_depth ns
    have h2 := nmD_depth n
    simp only [List.map_cons, PyData.depthAll]
    omega
theorem nms_shaped (ns : List Bytes) : SeqAt.shaped (.list (ns.map nmD)) = true :=
  shaped_of (by simp only [PyData.canLay0]; exact nms_lay ns) (by have := nms_depth ns; simp only [PyData.depth]; omega)
theorem bD_eqv : ∀ a b : Bytes, PyData.eqvAll (bD a) (bD b) = decide (a = b)
  | [], [] => by simp [bD, PyData.eqvAll]
  | [], _ :: _ => by simp [bD, PyData.eqvAll]
  | _ :: _, [] => by simp [bD, PyData.eqvAll]
  | x :: a, y :: b => by
    have ih := bD_eqv a b
    have e : PyData.eqvAll (bD (x :: a)) (bD (y :: b)) = (((x.toNat : Int) == (y.toNat : Int)) && PyData.eqvAll (bD a) (bD b)) := by simp [bD, PyData.eqvAll, PyData.eqv]
    rw [e, ih]
    refine bool_eq ?_
    rw [Bool.and_eq_true, beq_iff_eq, decide_eq_true_eq, decide_eq_true_eq, List.cons.injEq]
    exact ⟨fun ⟨p, q⟩ => ⟨toNat_inj p, q⟩, fun ⟨p, q⟩ => ⟨by rw [p], q⟩⟩
theorem nmD_eqv (a b : Bytes) : PyData.eqv (nmD a) (nmD b) = decide (a = b) := by
  have e : PyData.eqv (nmD a) (nmD b) = PyData.eqvAll (bD a) (bD b) := by simp [nmD, PyData.eqv]
  rw [e, bD_eqv]
theorem bL_eqv (a b : Bytes) : PyData.eqv (.list (bD a)) (.list (bD b)) = decide (a = b) := by
  have e : PyData.eqv (.list (bD a)) (.list (bD b)) = PyData.eqvAll (bD a) (bD b) := by simp [PyData.eqv]
  rw [e, bD_eqv]
theorem nms_any (ns : List Bytes) (n : Bytes) : ((ns.map nmD).any fun z => PyData.eqv z (nmD n)) = ns.contains n := by
  induction ns with
  | nil => rfl
  | cons k ns ih =>
    rw [List.map_cons, List.any_cons, ih, nmD_eqv, List.contains_cons]
    congr 1
    refine bool_eq ?_
    rw [decide_eq_true_eq, beq_iff_eq]
    exact eq_comm
section
variable {K : PySem.W.Frag} {H : Hp} {a : Addr}
theorem dpAll_bD : ∀ t : Bytes, DpAll K H (bV t) (bD t)
  | [] => .nil
  | c :: t => .cons (.int _) (dpAll_bD t)
theorem IsName.dp {n : Bytes} (h : IsName H a n) : Dp K H (.ref a) (nmD n) := .tup (.of h) (dpAll_bD n)
theorem dp_list {t : Bytes} (h : SqL K H a (bV t)) : Dp K H (.ref a) (.list (bD t)) := .lst h (dpAll_bD t)
theorem dpAll_names : ∀ {as : List Addr} {ns : List Bytes}, All2 (IsName H) as ns → DpAll K H (rV as) (ns.map nmD)
  | _, _, .nil => .nil
  | _, _, .cons h t => .cons h.dp (dpAll_names t)
theorem dp_names {as : List Addr} {ns : List Bytes} (h : SqL K H a (rV as)) (hn : All2 (IsName H) as ns) : Dp K H (.ref a) (.list (ns.map nmD)) := .lst h (dpAll_names hn)
end
/-- names as a dict's keys, each with True -/
def nmK (ns : List Bytes) : List (List Key × V) := ns.map fun n => (bK n, V.bl true)
theorem nmK_val (ns : List Bytes) (n : Bytes) : valV (nmK ns) (bK n) = if ns.contains n = true then some (.bl true) else none := by
  induction ns with
  | nil => rfl
  | cons k ns ih =>
    show valV ((bK k, V.bl true) :: nmK ns) (bK n) = _
    by_cases h : k = n
    · rw [valV_pos (by show bK k = bK n; rw [h]), if_pos (by rw [List.contains_cons, h, beq_self_eq_true]; rfl)]
    · rw [valV_neg (fun z => h (bK_inj z)), ih, List.contains_cons, show (n == k) = false from beq_eq_false_iff_ne.mpr (fun z => h z.symm), Bool.false_or]
theorem nmK_put (ns : List Bytes) (n : Bytes) : putK (nmK ns) (bK n) (.bl true) = nmK (if ns.contains n = true then ns else ns ++ [n]) := by
  unfold putK
  rw [valV_any, nmK_val]
  by_cases h : ns.contains n = true
  · rw [if_pos h, if_pos h, if_pos (show (some (V.bl true)).isSome = true from rfl)]
    unfold nmK
    rw [List.map_map]
    refine List.map_congr_left fun k _ => ?_
    show (if bK k = bK n then (bK k, V.bl true) else (bK k, V.bl true)) = _
    split <;> rfl
  · rw [if_neg h, if_neg h, if_neg (by decide)]
    unfold nmK
    rw [List.map_append]
    rfl
theorem nmK_len (ns : List Bytes) : (nmK ns).length = ns.length := List.length_map _
/-- a new list of names, in the heap behind -/
def RetH (xs : List Bytes) (H : Hp) (Q : VK) : Prop := ∀ p H2 as, H p = none → Same H H2 → H2 p = some (.lst (rV as)) → All2 (IsName H2) as xs → Q (.ref p) H2
def spNames (K : PySem.W.Frag) : Sp := sp1 fun x H Q _ => ∃ (a : Addr) (b : Book), x = .ref a ∧ IsBook K H a b ∧ RetH b.names H Q
def RBook (K : PySem.W.Frag) (b : Book) : Hp → V → Prop := fun F v => ∃ p, v = .ref p ∧ IsBook K F p b
def spMoved (K : PySem.W.Frag) : Sp := sp4 fun x y z u H Q _ => ∃ (a na : Addr) (b : Book) (n : Bytes) (i j : Nat) (F : Hp), x = .ref a ∧ y = .ref na ∧ z = .int (i : Int) ∧ u = .int (j : Int) ∧ IsBook K F a b ∧ IsName F na n ∧ i ≤ 999999 ∧ j ≤ 999999 ∧ Same F H ∧
  Res H F Q (RBook K ⟨b.unit, b.told.map (ChainSpec.moved n i j)⟩)
def spStruck (K : PySem.W.Frag) : Sp := sp2 fun x y H Q _ => ∃ (a : Addr) (b : Book) (k : Nat) (F : Hp), x = .ref a ∧ y = .int (k : Int) ∧ IsBook K F a b ∧ Same F H ∧ Res H F Q (RBook K ⟨b.unit, ChainSpec.without k b.told⟩)
section
variable {P : Program} {w : World} {K : PySem.W.Frag} {mg : Str → Option Value} {base : Heap}
theorem flat_snoc {α β : Type} {f : α → List β} {l : List α} {i : Nat} {x : α} (h : l[i]? = some x) : (l.take (i + 1)).flatMap f = (l.take i).flatMap f ++ f x := by
  rw [take_snoc h, List.flatMap_append]
  simp
theorem flat_take_le {α β : Type} {f : α → List β} (l : List α) (i : Nat) : ((l.take i).flatMap f).length ≤ (l.flatMap f).length := (flatMap_sub (List.take_sublist i l)).length_le
theorem rV_app (a b : List Addr) : rV a ++ rV b = rV (a ++ b) := (List.map_append (f := V.ref)).symm
theorem kind0 (k : Nat) : decide (V.int (k : Int) = V.int 0) = (k == 0) := bool_eq (by
  rw [decide_eq_true_eq, beq_iff_eq]
  exact ⟨fun z => by have := V.int.inj z; omega, fun z => by rw [z]; rfl⟩)
theorem kind2 (k : Nat) : (!decide (V.int (k : Int) = V.int 2)) = (k != 2) := bool_eq (by
  rw [Bool.not_eq_true', decide_eq_false_iff_not, bne_iff_ne]
  exact ⟨fun z q => z (by rw [q]; rfl), fun z q => z (by have := V.int.inj q; omega)⟩)
theorem ok_names_set (T : Txt K mg) : Ok P w K mg base CX0 1 ("names_set", none) ["book"] (spNamesSet K) := by
  refine mk_ok T 11 rfl sc_names_set T.g_names_set (fun _ _ _ _ _ _ us hl => match us, hl with | [_], _ => rfl) len1 (fun cdv A outer s H vs Q E hr h => ?_)
  refine ⟨_, (pss_cons (ps_set (i := 1) sc_names_set.nd rfl (Or.inl rfl) (pe_lst pa_nil))
      (pss_cons (ps_for PassesOwn.never rfl (pi_list (pe_fld (pv 0) rfl)) (pg_name (i := 2) sc_names_set.nd rfl (Or.inl rfl))
      (pss_one (ps_if (pt_val (pe_callB call_isi (by rfl) T.n_isinstance (by decide +kernel) (pa_cons (pv 2) (pa_cons (pe_gref T.g_Known) pa_nil)))) (pss_one (ps_expr (pe_bm PySem.F.plainAttrs_list PySem.F.slot_list_append PySem.F.type_list_append mt_append (pv 1) (pa_cons (pe_fld (pv 2) rfl) pa_nil)))) (pss_one (ps_expr (pe_bm PySem.F.plainAttrs_list PySem.F.slot_list_extend PySem.F.type_list_extend mt_extend (pv 1) (pa_cons (pe_lc (own := [("entry", 3)]) (g := (gName 3)) (tt := (tTest (tOp rEq (tFld K (tVar 3) "kind") (tC (.int (0)))))) (te := (tFld K (tVar 3) "name")) rfl sc_names_set.nd (pi_list (pe_fld (pv 2) rfl)) (blkOk_by (own := [("entry", 3)]) (N := N_names_set) (sc := defScope s_names_set) (by decide +kernel)) (fun _ _ _ _ _ => (pg_name (i := 3) sc_names_set.nd rfl (Or.inl rfl))) (fun _ _ _ _ _ => (pts_one (pt_cmpR op_eq (pe_fld (pv 3) rfl) (pe_cst T.m_STATION) (nomark _)))) (fun _ _ _ _ _ => (pe_fld (pv 3) rfl))) pa_nil)))))))
      (pss_one (ps_ret (pv 1))))), ?_⟩
  obtain ⟨x0, rfl, h⟩ := h
  obtain ⟨a, b, F, rfl, ⟨wf, dx, sa, sas, h1, h2, h3⟩, hF, h⟩ := h
  have tot : ∀ i, ((b.told.take i).flatMap setNames).length ≤ 64 := fun i => by
    refine Nat.le_trans (flat_take_le b.told i) ?_
    rw [← sets_names, List.length_map]
    exact wf.s64
  refine ⟨(by show 0 ≤ sizeLine; decide), fun nm hnm => ?_⟩
  refine ⟨_, rfl, a, _, dx, _, _, rfl, ((Gr.refl hF).add hnm).sub _ _ h1, T.c_Book, T.a_Book_sentences, rfl, sa, rfl, ⟨_, .of (((Gr.refl hF).add hnm).sub _ _ h2)⟩, for_list (K := K) (a := sa) (xs := rV sas) (fun i σ H' => ∃ as v u, σ = [some (.ref a), some (.ref nm), v, u] ∧ Gr H F H' F ∧ Own H H' F nm (.lst (rV as)) ∧ All2 (IsName F) as ((b.told.take i).flatMap setNames)) ⟨[], none, none, rfl, (Gr.refl hF).add hnm, Own.first (Gr.refl hF) hnm, .nil⟩ ?_ ?_ ?_⟩
  · rintro i σ H' _ ⟨as, v, u, rfl, g, o, hn⟩
    exact .of (g.sub _ _ h2)
  · rintro i x σ H' hx ⟨as, v, u, rfl, g, o, hn⟩
    obtain ⟨q, hq, rfl⟩ := rV_get hx
    obtain ⟨t, ht, hT⟩ := h3.get hq
    have tot1 := tot (i + 1)
    rw [flat_snoc ht, List.length_append] at tot1
    have la := hn.len
    refine ⟨_, rfl, ?_⟩
    dsimp only [tCons, tC, tNil]
    refine told_isKnown T (hT.mono g.sub) ?_
    refine ⟨_, rfl, ?_⟩
    cases t with
    | known n x y =>
      obtain ⟨kx, na, k1, k2⟩ := hT
      refine iteT ⟨_, rfl, .inl ⟨rfl, _, SqL.of o.at_⟩, _, rfl, q, _, kx, _, _, rfl, g.sub _ _ k1, T.c_Known, T.a_Known_name, rfl, nm, _, _, rfl, rfl, o.at_, ?_, ?_⟩
      · rw [rV_len]
        exact small_line (by omega)
      · refine ⟨as ++ [na], some (.ref q), u, rfl, g.own o, ?_, ?_⟩
        · rw [rV_snoc]
          exact o.set
        · rw [flat_snoc ht]
          exact hn.snoc k2
    | line xn yn m es =>
      obtain ⟨kx, xa, ya, ea, eas, k1, k2, k3, k4, k5⟩ := hT
      have sn : setNames (.line xn yn m es) = (es.filter fun e => mkKind e.mark == 0).map fun e => mkName e.mark := rfl
      refine iteF ⟨_, rfl, .inl ⟨rfl, _, SqL.of o.at_⟩, _, rfl, q, _, kx, _, _, rfl, g.sub _ _ k1, T.c_Line, T.a_Line_entries, rfl, ea, rfl, ⟨_, .of (g.sub _ _ k4)⟩, fun D hD => ?_⟩
      refine lc_list (K := K) (a := ea) (xs := rV eas) (fun j H'' => ∃ qs, Gr H' F H'' F ∧ Own H' H'' F D (.lst (rV qs)) ∧ All2 (IsName F) qs (((es.take j).filter fun e => mkKind e.mark == 0).map fun e => mkName e.mark)) ⟨[], (Gr.refl g.sub).add hD, Own.first (Gr.refl g.sub) hD, .nil⟩ ?_ ?_ ?_
      · rintro j H'' _ ⟨qs, g2, o2, hq2⟩
        exact .of (g2.sub _ _ k4)
      · rintro j y H'' hy ⟨qs, g2, o2, hq2⟩
        obtain ⟨r, hr1, rfl⟩ := rV_get hy
        obtain ⟨e, he, dx2, na, e1, e2⟩ := k5.get hr1
        refine ⟨rfl, _, rfl, r, _, dx2, _, _, rfl, g2.sub _ _ e1, T.c_Entry, T.a_Entry_kind, rfl, rfl, _, rfl, ?_⟩
        rw [kind0]
        have ft : ((es.take (j + 1)).filter fun e => mkKind e.mark == 0) = ((es.take j).filter fun e => mkKind e.mark == 0) ++ [e].filter fun e => mkKind e.mark == 0 := by
          rw [take_snoc he, List.filter_append]
        have l1 : ((es.take j).filter fun e => mkKind e.mark == 0).length ≤ (es.filter fun e => mkKind e.mark == 0).length := ((List.take_sublist j es).filter _).length_le
        have l2 := hq2.len
        rw [List.length_map] at l2
        rw [sn, List.length_map] at tot1
        cases z : (mkKind e.mark == 0) with
        | true =>
          refine iteT ⟨_, rfl, r, _, dx2, _, _, rfl, g2.sub _ _ e1, T.c_Entry, T.a_Entry_name, rfl, _, o2.at_, ?_, qs ++ [na], g2.own o2, ?_, ?_⟩
          · rw [rV_len]
            exact small_line (by omega)
          · rw [rV_snoc]
            exact o2.set
          · rw [ft]
            have : [e].filter (fun e => mkKind e.mark == 0) = [e] := by simp [z]
            rw [this, List.map_append]
            exact hq2.snoc e2
        | false =>
          refine iteF ⟨qs, g2, o2, ?_⟩
          rw [ft]
          have : [e].filter (fun e => mkKind e.mark == 0) = [] := by simp [z]
          rw [this, List.append_nil]
          exact hq2
      · rintro H'' ⟨qs, g2, o2, hq2⟩
        rw [rV_len, k5.len, List.take_length] at hq2
        have o3 := o.go g2
        have l2 : qs.length = ((es.filter fun e => mkKind e.mark == 0).map fun e => mkName e.mark).length := hq2.len
        refine ⟨nm, D, _, _, rfl, rfl, o3.at_, o2.at_, ?_, ?_⟩
        · rw [rV_len, rV_len]
          rw [sn] at tot1
          exact small_line' (by omega)
        · refine ⟨as ++ qs, some (.ref q), u, rfl, (g.trans g2).own o3, ?_, ?_⟩
          · rw [rV_app]
            exact o3.set
          · rw [flat_snoc ht]
            exact hn.app hq2
  · rintro σ H' ⟨as, v, u, rfl, g, o, hn⟩
    rw [rV_len, h3.len, List.take_length, ← sets_names] at hn
    exact ⟨_, rfl, h nm H' as hnm g.keep o.at_ hn⟩
/-- a key is put -/
theorem put_key {H F H1 F1 : Hp} {d na : Addr} {L : List Bytes} {n : Bytes} (g : Gr H F H1 F1) (o : Own H H1 F1 d (.dT (nmK (LsChain.addAll [] L)))) (hn : IsName H1 na n) (hl : L.length ≤ 5000) {R : Hp → Prop}
    (h : Gr H F (upd H1 d (.dT (nmK (LsChain.addAll [] (L ++ [n]))))) F1 → Own H (upd H1 d (.dT (nmK (LsChain.addAll [] (L ++ [n]))))) F1 d (.dT (nmK (LsChain.addAll [] (L ++ [n])))) → R (upd H1 d (.dT (nmK (LsChain.addAll [] (L ++ [n])))))) :
    ∃ a H4, V.ref d = .ref a ∧ DPut H1 a (.ref na) (.bl true) H4 ∧ R H4 := by
  have e : putK (nmK (LsChain.addAll [] L)) (bK n) (.bl true) = nmK (LsChain.addAll [] (L ++ [n])) := by
    rw [nmK_put, addAll_append, addAll_one]
  have p := DPut.t (v := .bl true) o.at_ (show H1 na = some (.tup ((bK n).map kV)) by rw [bK_V]; exact hn) (by rw [nmK_len]; have := addAll_len L []; rw [List.length_nil] at this; exact small_line (by omega))
  rw [e] at p
  exact ⟨d, _, rfl, p, h (g.own o) o.set⟩
theorem ok_names_told (T : Txt K mg) : Ok P w K mg base CX0 1 ("names_told", none) ["book"] (spNames K) := by
  refine mk_ok T 12 rfl sc_names_told T.g_names_told (fun _ _ _ _ _ _ us hl => match us, hl with | [_], _ => rfl) len1 (fun cdv A outer s H vs Q E hr h => ?_)
  refine ⟨_, (pss_cons (ps_set (i := 1) sc_names_told.nd rfl (Or.inl rfl) pe_dnewT)
      (pss_cons (ps_for PassesOwn.never rfl (pi_list (pe_fld (pv 0) rfl)) (pg_name (i := 2) sc_names_told.nd rfl (Or.inl rfl))
      (pss_one (ps_if (pt_val (pe_callB call_isi (by rfl) T.n_isinstance (by decide +kernel) (pa_cons (pv 2) (pa_cons (pe_gref T.g_Known) pa_nil)))) (pss_one (ps_dput (hu_of hr) (pv 1) (pe_fld (pv 2) rfl) pe_bl rfl)) (pss_cons (ps_dput (hu_of hr) (pv 1) (pe_fld (pv 2) rfl) pe_bl rfl)
      (pss_cons (ps_dput (hu_of hr) (pv 1) (pe_fld (pv 2) rfl) pe_bl rfl)
      (pss_one (ps_for PassesOwn.never rfl (pi_list (pe_fld (pv 2) rfl)) (pg_name (i := 3) sc_names_told.nd rfl (Or.inl rfl))
      (pss_one (ps_if (pt_cmpR op_ne (pe_fld (pv 3) rfl) (pe_cst T.m_FEATURE) (nomark _)) (pss_one (ps_dput (hu_of hr) (pv 1) (pe_fld (pv 3) rfl) pe_bl rfl)) pss_nil)))))))))
      (pss_one (ps_ret (pe_callTy (call_list_dT rfl) (by rfl) T.n_list (by decide +kernel) (pa_cons (pv 1) pa_nil)))))), ?_⟩
  obtain ⟨x0, rfl, h⟩ := h
  obtain ⟨a, b, rfl, ⟨wf, dx, sa, sas, h1, h2, h3⟩, h⟩ := h
  have tot : ∀ i, ((b.told.take i).flatMap LsChain.namesIn).length ≤ 768 := fun i => by
    refine Nat.le_trans (flat_take_le b.told i) (Nat.le_trans (names_total b) ?_)
    have := wf.told128
    have := wf.e512
    omega
  intro d hd
  refine ⟨_, rfl, a, _, dx, _, _, rfl, ((Gr.refl (Same.refl H)).add hd).sub _ _ h1, T.c_Book, T.a_Book_sentences, rfl, sa, rfl, ⟨_, .of (((Gr.refl (Same.refl H)).add hd).sub _ _ h2)⟩, for_list (K := K) (a := sa) (xs := rV sas) (fun i σ H' => ∃ v u, σ = [some (.ref a), some (.ref d), v, u] ∧ Gr H H H' H ∧ Own H H' H d (.dT (nmK (LsChain.addAll [] ((b.told.take i).flatMap LsChain.namesIn))))) ⟨none, none, rfl, (Gr.refl (Same.refl H)).add hd, Own.first (Gr.refl (Same.refl H)) hd⟩ ?_ ?_ ?_⟩
  · rintro i σ H' _ ⟨v, u, rfl, g, o⟩
    exact .of (g.sub _ _ h2)
  · rintro i x σ H' hx ⟨v, u, rfl, g, o⟩
    obtain ⟨q, hq, rfl⟩ := rV_get hx
    obtain ⟨t, ht, hT⟩ := h3.get hq
    have tot1 := tot (i + 1)
    rw [flat_snoc ht, List.length_append] at tot1
    refine ⟨_, rfl, ?_⟩
    dsimp only [tCons, tC, tNil]
    refine told_isKnown T (hT.mono g.sub) ?_
    refine ⟨_, rfl, ?_⟩
    cases t with
    | known n x y =>
      obtain ⟨kx, na, k1, k2⟩ := hT
      refine iteT ⟨_, rfl, _, rfl, q, _, kx, _, _, rfl, g.sub _ _ k1, T.c_Known, T.a_Known_name, rfl, ?_⟩
      refine put_key g o (k2.mono g.sub) (by omega) fun g' o' => ?_
      refine ⟨some (.ref q), u, rfl, g', ?_⟩
      rw [flat_snoc ht]
      exact o'
    | line xn yn m es =>
      obtain ⟨kx, xa, ya, ea, eas, k1, k2, k3, k4, k5⟩ := hT
      have sn : LsChain.namesIn (.line xn yn m es) = ([xn] ++ [yn]) ++ (es.filter fun e => mkKind e.mark != 2).map fun e => mkName e.mark := names_line xn yn m es
      have el : es.length ≤ 512 := line_entries wf (l := (xn, yn, m, es)) (List.mem_filterMap.mpr ⟨_, List.mem_of_getElem? ht, rfl⟩)
      refine iteF ⟨_, rfl, _, rfl, q, _, kx, _, _, rfl, g.sub _ _ k1, T.c_Line, T.a_Line_first, rfl, ?_⟩
      refine put_key g o (k2.mono g.sub) (by omega) fun g1 o1 => ?_
      refine ⟨_, rfl, _, rfl, q, _, kx, _, _, rfl, g1.sub _ _ k1, T.c_Line, T.a_Line_second, rfl, ?_⟩
      refine put_key g1 o1 (k3.mono g1.sub) (by simp only [List.length_append, List.length_singleton]; omega) fun g2 o2 => ?_
      refine ⟨_, rfl, q, _, kx, _, _, rfl, g2.sub _ _ k1, T.c_Line, T.a_Line_entries, rfl, ea, rfl, ⟨_, .of (g2.sub _ _ k4)⟩, for_list (K := K) (a := ea) (xs := rV eas) (fun j σ H'' => ∃ u, σ = [some (.ref a), some (.ref d), some (.ref q), u] ∧ Gr H H H'' H ∧ Own H H'' H d (.dT (nmK (LsChain.addAll [] ((b.told.take i).flatMap LsChain.namesIn ++ [xn] ++ [yn] ++ ((es.take j).filter fun e => mkKind e.mark != 2).map fun e => mkName e.mark))))) ⟨u, rfl, g2, ?_⟩ ?_ ?_ ?_⟩
      · rw [List.take_zero]
        simp only [List.filter_nil, List.map_nil, List.append_nil]
        exact o2
      · rintro j σ H'' _ ⟨u, rfl, g3, o3⟩
        exact .of (g3.sub _ _ k4)
      · rintro j y σ H'' hy ⟨u, rfl, g3, o3⟩
        obtain ⟨r, hr1, rfl⟩ := rV_get hy
        obtain ⟨e, he, dx2, na, e1, e2⟩ := k5.get hr1
        refine ⟨_, rfl, r, _, dx2, _, _, rfl, g3.sub _ _ e1, T.c_Entry, T.a_Entry_kind, rfl, rfl, _, rfl, ?_⟩
        rw [kind2]
        have ft : ((es.take (j + 1)).filter fun e => mkKind e.mark != 2) = ((es.take j).filter fun e => mkKind e.mark != 2) ++ [e].filter fun e => mkKind e.mark != 2 := by
          rw [take_snoc he, List.filter_append]
        cases z : (mkKind e.mark != 2) with
        | true =>
          refine iteT ⟨_, rfl, _, rfl, r, _, dx2, _, _, rfl, g3.sub _ _ e1, T.c_Entry, T.a_Entry_name, rfl, ?_⟩
          refine put_key g3 o3 (e2.mono g3.sub) ?_ fun g4 o4 => ?_
          · simp only [List.length_append, List.length_map, List.length_singleton]
            have l1 : ((es.take j).filter fun e => mkKind e.mark != 2).length ≤ es.length := Nat.le_trans (List.length_filter_le _ _) (by rw [List.length_take]; omega)
            omega
          · refine ⟨some (.ref r), rfl, g4, ?_⟩
            rw [ft]
            have : [e].filter (fun e => mkKind e.mark != 2) = [e] := by simp [z]
            rw [this, List.map_append, List.map_singleton, ← List.append_assoc]
            exact o4
        | false =>
          refine iteF ⟨some (.ref r), rfl, g3, ?_⟩
          rw [ft]
          have : [e].filter (fun e => mkKind e.mark != 2) = [] := by simp [z]
          rw [this, List.append_nil]
          exact o3
      · rintro σ H'' ⟨u, rfl, g3, o3⟩
        rw [rV_len, k5.len] at o3
        refine ⟨some (.ref q), u, rfl, g3, ?_⟩
        rw [flat_snoc ht, sn]
        rw [List.take_length] at o3
        simp only [List.append_assoc] at o3 ⊢
        exact o3
  · rintro σ H' ⟨v, u, rfl, g, o⟩
    rw [rV_len, h3.len, List.take_length] at o
    refine ⟨_, rfl, d, _, rfl, .of o.at_, fun p bs hp hk => ?_⟩
    refine h p _ bs (g.keep.free hp) (same_upd2 g.keep hp) upd_same ?_
    have s1 : Same H' (upd H' p (.lst (bs.map V.ref))) := same_upd hp
    have go : ∀ {ns : List Bytes} {bs : List Addr}, IsKeys H' (nmK ns) bs → All2 (IsName H') bs ns := fun {ns} => by
      induction ns with
      | nil =>
        intro bs k
        cases k
        exact .nil
      | cons n ns ih =>
        intro bs k
        cases k with
        | cons hh tt =>
          refine .cons ?_ (ih tt)
          have hh : H' _ = some (.tup ((bK n).map kV)) := hh
          rw [bK_V] at hh
          exact hh
    exact (go hk).imp fun _ _ => IsName.mono s1
theorem ok_moved (T : Txt K mg) : Ok P w K mg base CX0 3 ("moved", none) ["book", "name", "x", "y"] (spMoved K) := by
  refine mk_ok T 13 rfl sc_moved T.g_moved (fun _ _ _ _ _ _ us hl => match us, hl with | [_, _, _, _], _ => rfl) len4 (fun cdv A outer s H vs Q E hr h => ?_)
  refine ⟨_, (pss_cons (ps_set (i := 4) sc_moved.nd rfl (Or.inl rfl) (pe_lst pa_nil))
      (pss_cons (ps_for PassesOwn.never rfl (pi_list (pe_fld (pv 0) rfl)) (pg_name (i := 5) sc_moved.nd rfl (Or.inl rfl))
      (pss_one (ps_if (PW.pt (pw_and (pt_val (pe_callB call_isi (by rfl) T.n_isinstance (by decide +kernel) (pa_cons (pv 5) (pa_cons (pe_gref T.g_Known) pa_nil)))) (pw_and1 (pt_cmpR (op_eqD hr.units) (pe_fld (pv 5) rfl) (pv 1) (nomark _))))) (pss_one (ps_expr (pe_bm PySem.F.plainAttrs_list PySem.F.slot_list_append PySem.F.type_list_append mt_append (pv 4) (pa_cons (pe_k T.k_Known (ok_Known___init__ T) hr (pa_cons (pv 1) (pa_cons (pv 2) (pa_cons (pv 3) pa_nil)))) pa_nil)))) (pss_one (ps_expr (pe_bm PySem.F.plainAttrs_list PySem.F.slot_list_append PySem.F.type_list_append mt_append (pv 4) (pa_cons (pv 5) pa_nil)))))))
      (pss_one (ps_ret (pe_k T.k_Book (ok_Book___init__ T) hr (pa_cons (pe_fld (pv 0) rfl) (pa_cons (pe_fld (pv 0) rfl) (pa_cons (pv 4) pa_nil)))))))), ?_⟩
  obtain ⟨x0, x1, x2, x3, rfl, h⟩ := h
  obtain ⟨a, na, b, n, vi, vj, F, rfl, rfl, rfl, rfl, ⟨wf, dx, sa, sas, h1, h2, h3⟩, hna, hi, hj, hF, h⟩ := h
  refine ⟨(by show 0 ≤ sizeLine; decide), fun se hse => ?_⟩
  refine ⟨_, rfl, a, _, dx, _, _, rfl, ((Gr.refl hF).add hse).sub _ _ h1, T.c_Book, T.a_Book_sentences, rfl, sa, rfl, ⟨_, .of (((Gr.refl hF).add hse).sub _ _ h2)⟩, for_list (K := K) (a := sa) (xs := rV sas) (fun i σ H' => ∃ F1 as v, σ = [some (.ref a), some (.ref na), some (.int (vi : Int)), some (.int (vj : Int)), some (.ref se), v] ∧ Gr H F H' F1 ∧ Own H H' F1 se (.lst (rV as)) ∧ All2 (IsTold K F1) as ((b.told.take i).map (ChainSpec.moved n vi vj))) ⟨F, [], none, rfl, (Gr.refl hF).add hse, Own.first (Gr.refl hF) hse, .nil⟩ ?_ ?_ ?_⟩
  · rintro i σ H' _ ⟨F1, as, v, rfl, g, o, hn⟩
    exact .of (g.sub _ _ (g.fr _ _ h2))
  · rintro i x σ H' hx ⟨F1, as, v, rfl, g, o, hn⟩
    obtain ⟨q, hq, rfl⟩ := rV_get hx
    obtain ⟨t, ht, hT⟩ := h3.get hq
    have hT1 := hT.mono g.fr
    have la := hn.len
    rw [List.length_map, List.length_take] at la
    have w128 := wf.told128
    have sz : (rV as).length < sizeLine := by
      rw [rV_len]
      exact small_line (by omega)
    have keep : ∀ D : Ends, (∀ σ' H'', D.nx σ' H'' = ∃ F1 as v, σ' = [some (.ref a), some (.ref na), some (.int (vi : Int)), some (.int (vj : Int)), some (.ref se), v] ∧ Gr H F H'' F1 ∧ Own H H'' F1 se (.lst (rV as)) ∧ All2 (IsTold K F1) as ((b.told.take (i + 1)).map (ChainSpec.moved n vi vj))) → ChainSpec.moved n vi vj t = t →
        tDrop (tBM K "list" rAppend (tVar 4) (tCons (tVar 5) tNil)) D [some (.ref a), some (.ref na), some (.int (vi : Int)), some (.int (vj : Int)), some (.ref se), some (.ref q)] H' := fun D hD e => by
      refine ⟨_, rfl, .inl ⟨rfl, _, SqL.of o.at_⟩, _, rfl, se, _, _, rfl, rfl, o.at_, sz, ?_⟩
      show D.nx _ _
      rw [hD]
      refine ⟨F1, as ++ [q], _, rfl, g.own o, ?_, ?_⟩
      · rw [rV_snoc]
        exact o.set
      · rw [take_snoc ht, List.map_append]
        refine hn.snoc ?_
        rw [e]
        exact hT1
    refine ⟨_, rfl, ?_⟩
    dsimp only [tCons, tC, tNil]
    refine told_isKnown T (hT1.mono g.sub) ?_
    refine ⟨_, rfl, ?_⟩
    cases t with
    | known m u1 u2 =>
      obtain ⟨kx, ma, k1, k2⟩ := hT1
      refine iteT ⟨_, rfl, q, _, kx, _, _, rfl, g.sub _ _ k1, T.c_Known, T.a_Known_name, rfl, _, rfl, nmD m, nmD n, (k2.mono g.sub).dp, ((hna.mono g.fr).mono g.sub).dp, nmD_shaped m, nmD_shaped n, _, rfl, ?_⟩
      rw [nmD_eqv]
      by_cases z : m = n
      · rw [decide_eq_true z]
        refine iteT ⟨_, rfl, .inl ⟨rfl, _, SqL.of o.at_⟩, _, rfl, _, rfl, _, rfl, fun x dx2 nx nd ne => ⟨_, _, _, _, rfl, x, dx2, rfl, upd_same, rfl, ?_⟩⟩
        have g2 : Gr H' F1 _ _ := (Gr.refl g.sub).made (C := He.ga K "Known") (fs := knoF na vi vj) nx nd ne
        have o2 := o.go g2
        refine ⟨se, _, _, rfl, rfl, o2.at_, sz, ?_⟩
        refine ⟨_, as ++ [x], _, rfl, (g.trans g2).own o2, ?_, ?_⟩
        · rw [rV_snoc]
          exact o2.set
        · rw [take_snoc ht, List.map_append]
          refine (hn.imp fun _ _ => IsTold.mono g2.fr).snoc ?_
          have e : ChainSpec.moved n vi vj (.known m u1 u2) = .known m vi vj := if_pos z
          rw [e, z]
          exact ⟨dx2, na, upd_same, (hna.mono g.fr).mono g2.fr⟩
      · rw [decide_eq_false z]
        exact iteF (keep _ (fun _ _ => rfl) (if_neg z))
    | line xn yn m es => exact iteF (iteF (keep _ (fun _ _ => rfl) rfl))
  · rintro σ H' ⟨F1, as, v, rfl, g, o, hn⟩
    rw [rV_len, h3.len, List.take_length] at hn
    refine ⟨_, rfl, a, _, dx, _, _, rfl, g.sub _ _ (g.fr _ _ h1), T.c_Book, T.a_Book_metres, rfl, _, rfl, a, _, dx, _, _, rfl, g.sub _ _ (g.fr _ _ h1), T.c_Book, T.a_Book_links, rfl, _, rfl, fun x dx2 nx nd ne => ⟨_, _, _, _, rfl, x, dx2, rfl, upd_same, rfl, ?_⟩⟩
    have g1 := g.freeze o.new o.out o.at_
    have g2 := g1.made (C := He.ga K "Book") (fs := bokF se b.unit) nx nd ne
    refine h _ _ _ g2 ⟨x, rfl, wf.moved hi hj, dx2, se, as, upd_same, ?_, ?_⟩
    · rw [upd_ne (ne_some o.at_ nx)]
      exact upd_same
    · exact hn.imp fun _ _ h => (h.mono (same_upd o.out)).mono (same_upd (free_sub g1.sub nx))
theorem ok_struck (T : Txt K mg) : Ok P w K mg base CX0 3 ("struck", none) ["book", "number"] (spStruck K) := by
  refine mk_ok T 14 rfl sc_struck T.g_struck (fun _ _ _ _ _ _ us hl => match us, hl with | [_, _], _ => rfl) len2 (fun cdv A outer s H vs Q E hr h => ?_)
  refine ⟨_, (pss_cons (ps_set (i := 2) sc_struck.nd rfl (Or.inl rfl) (pe_lst pa_nil))
      (pss_cons (ps_set (i := 3) sc_struck.nd rfl (Or.inl rfl) pe_int)
      (pss_cons (ps_for PassesOwn.never rfl (pi_list (pe_fld (pv 0) rfl)) (pg_name (i := 4) sc_struck.nd rfl (Or.inl rfl))
      (pss_cons (ps_if (PW.pt (pw_or (pt_val (pe_callB call_isi (by rfl) T.n_isinstance (by decide +kernel) (pa_cons (pv 4) (pa_cons (pe_gref T.g_Known) pa_nil)))) (pw_or1 (pt_cmpR op_ne (pv 3) (pv 1) (nomark _))))) (pss_one (ps_expr (pe_bm PySem.F.plainAttrs_list PySem.F.slot_list_append PySem.F.type_list_append mt_append (pv 2) (pa_cons (pv 4) pa_nil)))) pss_nil)
      (pss_one (ps_if (pt_val (pe_callB call_isi (by rfl) T.n_isinstance (by decide +kernel) (pa_cons (pv 4) (pa_cons (pe_gref T.g_Line) pa_nil)))) (pss_one (ps_aug (i := 3) sc_struck.nd rfl (Or.inl rfl) pe_int ip_add)) pss_nil))))
      (pss_one (ps_ret (pe_k T.k_Book (ok_Book___init__ T) hr (pa_cons (pe_fld (pv 0) rfl) (pa_cons (pe_fld (pv 0) rfl) (pa_cons (pv 2) pa_nil))))))))), ?_⟩
  obtain ⟨x0, x1, rfl, h⟩ := h
  obtain ⟨a, b, k, F, rfl, rfl, ⟨wf, dx, sa, sas, h1, h2, h3⟩, hF, h⟩ := h
  refine ⟨(by show 0 ≤ sizeLine; decide), fun se hse => ?_⟩
  refine ⟨_, rfl, a, _, dx, _, _, rfl, ((Gr.refl hF).add hse).sub _ _ h1, T.c_Book, T.a_Book_sentences, rfl, sa, rfl, ⟨_, .of (((Gr.refl hF).add hse).sub _ _ h2)⟩, for_list (K := K) (a := sa) (xs := rV sas) (fun i σ H' => ∃ as v, σ = [some (.ref a), some (.int (k : Int)), some (.ref se), some (.int (lineCount (b.told.take i) : Int)), v] ∧ Gr H F H' F ∧ Own H H' F se (.lst (rV as)) ∧ All2 (IsTold K F) as (ChainSpec.without k (b.told.take i))) ⟨[], none, rfl, (Gr.refl hF).add hse, Own.first (Gr.refl hF) hse, .nil⟩ ?_ ?_ ?_⟩
  · rintro i σ H' _ ⟨as, v, rfl, g, o, hn⟩
    exact .of (g.sub _ _ h2)
  · rintro i x σ H' hx ⟨as, v, rfl, g, o, hn⟩
    obtain ⟨q, hq, rfl⟩ := rV_get hx
    obtain ⟨t, ht, hT⟩ := h3.get hq
    have la := hn.len
    have lw := (without_sub (b.told.take i) k).length_le
    rw [List.length_take] at lw
    have w128 := wf.told128
    have sz : (rV as).length < sizeLine := by
      rw [rV_len]
      exact small_line (by omega)
    have ew := without_snoc (b.told.take i) k t
    rw [← take_snoc ht] at ew
    have ec := lineCount_snoc (b.told.take i) t
    rw [← take_snoc ht] at ec
    -- the second if: a line more
    have fin : ∀ (D : Ends) (H'' : Hp) (as' : List Addr), (∀ σ' H'', D.nx σ' H'' = ∃ as v, σ' = [some (.ref a), some (.int (k : Int)), some (.ref se), some (.int (lineCount (b.told.take (i + 1)) : Int)), v] ∧ Gr H F H'' F ∧ Own H H'' F se (.lst (rV as)) ∧ All2 (IsTold K F) as (ChainSpec.without k (b.told.take (i + 1)))) →
        Gr H F H'' F → Own H H'' F se (.lst (rV as')) → All2 (IsTold K F) as' (ChainSpec.without k (b.told.take (i + 1))) →
        tIfS (tB (tCB (rIsi K) (tCons (tVar 4) (tCons (tC (.ref (He.ga K "Line"))) tNil)))) (tAug 3 (tC (.int 1)) (ipI fun i j => i + j)) tNext D [some (.ref a), some (.int (k : Int)), some (.ref se), some (.int (lineCount (b.told.take i) : Int)), some (.ref q)] H'' := fun D H'' as' hD g' o' hn' => by
      refine ⟨_, rfl, ?_⟩
      dsimp only [tCons, tC, tNil]
      refine told_isLine T (hT.mono g'.sub) ?_
      refine ⟨_, rfl, ?_⟩
      cases z : isLineT t with
      | true =>
        refine iteT ⟨_, rfl, _, _, rfl, rfl, ?_⟩
        show D.nx _ _
        rw [hD]
        rw [z, if_pos rfl] at ec
        refine ⟨as', some (.ref q), ?_, g', o', hn'⟩
        rw [ec]
        rfl
      | false =>
        refine iteF ?_
        show D.nx _ _
        rw [hD]
        rw [z, if_neg Bool.false_ne_true] at ec
        refine ⟨as', some (.ref q), ?_, g', o', hn'⟩
        rw [ec]
        rfl
    have app : ∀ (D : Ends), (∀ σ' H'', D.nx σ' H'' = ∃ as v, σ' = [some (.ref a), some (.int (k : Int)), some (.ref se), some (.int (lineCount (b.told.take (i + 1)) : Int)), v] ∧ Gr H F H'' F ∧ Own H H'' F se (.lst (rV as)) ∧ All2 (IsTold K F) as (ChainSpec.without k (b.told.take (i + 1)))) → (isKnownT t = true ∨ lineCount (b.told.take i) ≠ k) →
        tDrop (tBM K "list" rAppend (tVar 2) (tCons (tVar 4) tNil)) { D with nx := tIfS (tB (tCB (rIsi K) (tCons (tVar 4) (tCons (tC (.ref (He.ga K "Line"))) tNil)))) (tAug 3 (tC (.int 1)) (ipI fun i j => i + j)) tNext D } [some (.ref a), some (.int (k : Int)), some (.ref se), some (.int (lineCount (b.told.take i) : Int)), some (.ref q)] H' := fun D hD hc => by
      rw [if_pos hc] at ew
      refine ⟨_, rfl, .inl ⟨rfl, _, SqL.of o.at_⟩, _, rfl, se, _, _, rfl, rfl, o.at_, sz, ?_⟩
      have e : rV as ++ [V.ref q] = rV (as ++ [q]) := (rV_snoc as q).symm
      rw [e]
      refine fin D _ (as ++ [q]) hD (g.own o) o.set ?_
      rw [ew]
      exact hn.snoc hT
    refine ⟨_, rfl, ?_⟩
    dsimp only [tCons, tC, tNil]
    refine told_isKnown T (hT.mono g.sub) ?_
    refine ⟨_, rfl, ?_⟩
    cases z : isKnownT t with
    | true => exact iteT (iteT (app _ (fun _ _ => rfl) (.inl z)))
    | false =>
      refine iteF ⟨_, rfl, _, rfl, rfl, _, rfl, ?_⟩
      by_cases c : lineCount (b.told.take i) = k
      · have d : (!decide (V.int (lineCount (b.told.take i) : Int) = V.int (k : Int))) = false := by rw [c]; simp
        rw [d]
        refine iteF ?_
        rw [if_neg (by rintro (q | q); rw [z] at q; cases q; exact q c), List.append_nil] at ew
        exact fin _ _ as (fun _ _ => rfl) g o (by rw [ew]; exact hn)
      · have d : (!decide (V.int (lineCount (b.told.take i) : Int) = V.int (k : Int))) = true := by
          rw [decide_eq_false (fun q => c (by have := V.int.inj q; omega))]
          rfl
        rw [d]
        exact iteT (app _ (fun _ _ => rfl) (.inr c))
  · rintro σ H' ⟨as, v, rfl, g, o, hn⟩
    rw [rV_len, h3.len, List.take_length] at hn
    refine ⟨_, rfl, a, _, dx, _, _, rfl, g.sub _ _ h1, T.c_Book, T.a_Book_metres, rfl, _, rfl, a, _, dx, _, _, rfl, g.sub _ _ h1, T.c_Book, T.a_Book_links, rfl, _, rfl, fun x dx2 nx nd ne => ⟨_, _, _, _, rfl, x, dx2, rfl, upd_same, rfl, ?_⟩⟩
    have g1 := g.freeze o.new o.out o.at_
    have g2 := g1.made (C := He.ga K "Book") (fs := bokF se b.unit) nx nd ne
    refine h _ _ _ g2 ⟨x, rfl, wf.sub (without_sub b.told k), dx2, se, as, upd_same, ?_, ?_⟩
    · rw [upd_ne (ne_some o.at_ nx)]
      exact upd_same
    · exact hn.imp fun _ _ h => (h.mono (same_upd o.out)).mono (same_upd (free_sub g1.sub nx))
end
end CB
end
section
set_option Elab.async false
set_option linter.all false
set_option maxRecDepth 100000
set_option maxHeartbeats 4000000
namespace CB
open PySem PySem.Spec PyProof.Rows L2
/-- {t: v}, one pair, its key a tuple -/
def tDisp1 (tk tv : TE) : TE := fun σ H Q => ∀ p, H p = none → tk σ (upd H p (.dT [])) fun x H1 => tv σ H1 fun y H2 => ∃ b k, x = .ref b ∧ H2 p = some (.dT []) ∧ H2 b = some (.tup (k.map kV)) ∧ Q (.ref p) (upd H2 p (.dT [(k, y)]))
section
variable {X : Cx} {pos : Pos} {k v : Expr} {tk tv : TE}
theorem tupleKind_room {A : Around} {P : Program} {w : World} (hu : A.units + 1 < cLine) : (tupleKind (mixKind P w)).room A := by
  have := tupleKind_room_in1 (knd := mixKind P w) hu
  show (tupleKind (mixKind P w)).room A
  have hu' := hu
  first | exact this | (show A.units + 1 < cLine; exact hu') | (show A.units < cLine; omega)
theorem pe_disp1 (hu : X.A.units + 1 < cLine) (hk : PE X k tk) (hv : PE X v tv) : PE X (.Dict [some k] [v] pos) (tDisp1 tk tv) := by
  refine ⟨fun pins s σ H Q I q => ?_⟩
  have hn := I.hok.fresh (Nat.le_refl s.heap.objs.size)
  have I1 := I.laid (a := s.heap.objs.size) (o := .dT []) (h' := s.heap.push { cls := .type "dict", data := .dict #[] }) (t' := s.toks) (fun _ _ q => Heap.get?_push_of_some _ q) (Nat.le_refl _) (dt_empty s.heap I.big)
  rw [arm_eval_Dict, show (evalEachOpt [some k] X.env).zip ((evalEach [v] X.env).map fun v => do let x ← v; standAt pos; pure x) = (pairTrees [some k] [v] X.env pos).map (fun p => (some p.1, p.2)) from rfl,
    dictDisplay_pairs (pairTrees [some k] [v] X.env pos) (by intro z; cases z) (by show 1 < 17; decide)]
  refine wpAny_bind (wpAny_standAt (wpAny_bind (wpAny_subDictH (knd := tupleKind (mixKind X.prog X.w)) (Q := fun d s' => wpAny (model X.prog X.w) X.A (pure (Value.ref d)) _ X.xe s') (tupleKind_room hu) (by show 1 ≤ 15; decide) ?_)))
  refine pairTrees_cons_walk (thn (hk.run pins _ σ _ _ I1 (q _ hn)) fun u s1 ⟨x, H1, I2, rx, q1⟩ => thn (hv.run pins s1 σ H1 _ I2 q1) fun u2 s2 ⟨y, H2, I3, ry, q2⟩ => pairTrees_nil_walk ?_)
  obtain ⟨b, ks, ex, e, eb, q3⟩ := q2
  subst ex
  obtain rfl : u = Value.ref b := rx
  obtain ⟨z, hd, xs, r0, dd⟩ := dt_of I3.hok e
  cases r0
  refine ⟨[(ks, b, u2)], ⟨rfl, rfl, key_of I3.hok eb, True.intro⟩, dd, fun h' tk dd' hs => wpAny_pure ⟨.ref s.heap.objs.size, _, ?_, rfl, q3⟩⟩
  obtain ⟨q, es, ep, hq, h2, h3, h4, _, h5⟩ := dd'
  refine d_write I3 (by rw [e]; exact True.intro) hs ⟨q, hq⟩ ⟨(by rw [sizeLine_eq]; show 1 ≤ _; omega), hd, [(ks, b, u2)], KT.keeps (H := H2) (kvs := [(ks, y)]) (xs := [(ks, b, u2)]) (.cons ⟨rfl, eb, ry⟩ .nil) fun c ys ec => ?_, q, es, ep, hq, h2, h3, h4, h5⟩
  rw [upd_ne (ne_of ec e (fun z => nomatch z))]
  exact ec
end
end CB
end
section
set_option Elab.async false
set_option linter.all false
set_option maxRecDepth 100000
set_option maxHeartbeats 4000000
namespace CB
open PySem PySem.Spec PyProof.Rows L2
open LsText (Bytes)
open LsChain (Told Mark Set_ Book Places Point placeIn along)
/-- a place: east, north and below in lowest form, each of fewer than k bits -/
def IsPt (k : Nat) (F : Hp) (a : Addr) (p : Point) : Prop := ∃ e n b : Int, F a = some (.tup [.int e, .int n, .int b]) ∧ 0 < b ∧ Int.gcd n ((Int.gcd e b : Nat) : Int) = 1 ∧ p = ptOf e n b ∧ Sm k e ∧ Sm k n ∧ Sm k b
theorem IsPt.mono {k : Nat} {F F' : Hp} {a : Addr} {p : Point} (s : Same F F') : IsPt k F a p → IsPt k F' a p := fun ⟨e, n, b, h, r⟩ => ⟨e, n, b, s _ _ h, r⟩
theorem along_place {e n d e' n' d' : Int} {m c : Nat} {o : Int} (h1 : 0 < d) (h2 : 0 < d') (h3 : 0 < m) :
    ptOf (e * (d' * (m : Int)) + (e' * d - e * d') * (c : Int) - (n' * d - n * d') * o) (n * (d' * (m : Int)) + (n' * d - n * d') * (c : Int) + (e' * d - e * d') * o) (d * (d' * (m : Int))) = along (ptOf e n d) (ptOf e' n' d') m (c : Int) o := by
  have z1 := rat_ne h1
  have z2 := rat_ne h2
  have z3 : ((m : Nat) : Rat) ≠ 0 := by
    have : m ≠ 0 := by omega
    exact_mod_cast this
  unfold along ptOf
  push_cast
  congr 1 <;> grind
theorem Gr.got {H F H2 : Hp} {p : Addr} {o : HO} (hF : Same F H) (hp : H p = none) (s : Same H H2) (e : H2 p = some o) : Gr H F H2 (upd F p o) where
  keep := s
  fr := same_upd (hF.free hp)
  sub := fun b u q => by
    by_cases z : b = p
    · rw [z, upd_same] at q
      rw [z, e]
      exact q
    · rw [upd_ne z] at q
      exact s b u (hF b u q)
  new := fun b u q => by rw [upd_ne (ne_some q hp)]
theorem low_le (e n b : Int) (hb : 0 < b) : (lowOf e n b).1.natAbs ≤ e.natAbs ∧ (lowOf e n b).2.1.natAbs ≤ n.natAbs ∧ (lowOf e n b).2.2.natAbs ≤ b.natAbs :=
  ⟨Int.natAbs_ediv_le_natAbs _ _, Int.natAbs_ediv_le_natAbs _ _, Int.natAbs_ediv_le_natAbs _ _⟩
def spLowPl : Sp := sp3 fun x y z H Q _ => ∃ e n b : Int, x = .int e ∧ y = .int n ∧ z = .int b ∧ 0 < b ∧ Sm 8999 b ∧ RetT [.int (lowOf e n b).1, .int (lowOf e n b).2.1, .int (lowOf e n b).2.2] H Q
def spShares : Sp := sp1 fun x H Q _ => ∃ (a : Addr) (p : Point), x = .ref a ∧ IsPt 8999 H a p ∧ RetL (fracV p.1 ++ fracV p.2) H Q
def spWay : Sp := sp2 fun x y H Q _ => ∃ (a b : Addr) (e n d e' n' d' : Int), x = .ref a ∧ y = .ref b ∧ H a = some (.tup [.int e, .int n, .int d]) ∧ H b = some (.tup [.int e', .int n', .int d']) ∧ (Sm 4000 e ∧ Sm 4000 n ∧ Sm 4000 d ∧ Sm 4000 e' ∧ Sm 4000 n' ∧ Sm 4000 d') ∧
  RetT [.int (e' * d - e * d'), .int (n' * d - n * d')] H Q
def RPt (k : Nat) (p : Point) : Hp → V → Prop := fun F v => ∃ a, v = .ref a ∧ IsPt k F a p
def spPlaceOn : Sp := sp5 fun x y z u v H Q _ => ∃ (a b : Addr) (p q : Point) (m c : Nat) (o : Int) (F : Hp), x = .ref a ∧ y = .ref b ∧ z = .int (m : Int) ∧ u = .int (c : Int) ∧ v = .int o ∧ IsPt 1100 H a p ∧ IsPt 1100 H b q ∧ (0 < m ∧ m ≤ 100000 ∧ c ≤ 100000 ∧ o.natAbs ≤ 10000) ∧ Same F H ∧
  Res H F Q (RPt 2300 (along p q m (c : Int) o))
/-- places by names, in the order in which they were placed -/
def plR (F : Hp) (kv : List Key × V) (x : Bytes × Point) : Prop := kv.1 = bK x.1 ∧ ∃ a, kv.2 = .ref a ∧ IsPt 1100 F a x.2
theorem plR.mono {F F' : Hp} (s : Same F F') (kv : List Key × V) (x : Bytes × Point) : plR F kv x → plR F' kv x := fun ⟨h, a, h1, h2⟩ => ⟨h, a, h1, h2.mono s⟩
theorem pl_get {F : Hp} {n : Bytes} : ∀ {L : List (List Key × V)} {T : Places}, All2 (plR F) L T → (placeIn T n = none ∧ valV L (bK n) = none) ∨ ∃ p a, placeIn T n = some p ∧ valV L (bK n) = some (.ref a) ∧ IsPt 1100 F a p
  | _, _, .nil => .inl ⟨rfl, rfl⟩
  | kv :: L, x :: T, .cons ⟨h, a, h1, h2⟩ t => by
    rw [placeIn_cons]
    by_cases e : x.1 = n
    · rw [if_pos e]
      exact .inr ⟨_, a, rfl, by rw [valV_pos (h.trans (by rw [e])), h1], h2⟩
    · rw [if_neg e, valV_neg (fun z => e (bK_inj (h.symm.trans z)))]
      exact pl_get t
theorem pl_some {F : Hp} {n : Bytes} {L : List (List Key × V)} {T : Places} (h : All2 (plR F) L T) : (valV L (bK n)).isSome = (placeIn T n).isSome := by
  rcases pl_get (n := n) h with ⟨h1, h2⟩ | ⟨p, a, h1, h2, _⟩ <;> rw [h1, h2] <;> rfl
theorem pl_at {F : Hp} {n : Bytes} {p : Point} {L : List (List Key × V)} {T : Places} (h : All2 (plR F) L T) (hp : placeIn T n = some p) : ∃ a, valV L (bK n) = some (.ref a) ∧ IsPt 1100 F a p := by
  rcases pl_get (n := n) h with ⟨h1, h2⟩ | ⟨q, a, h1, h2, h3⟩
  · rw [hp] at h1
    cases h1
  · rw [hp] at h1
    cases h1
    exact ⟨a, h2, h3⟩
theorem dget_name {H : Hp} {d na : Addr} {n : Bytes} {L : List (List Key × V)} (e : H d = some (.dT L)) (h : IsName H na n) : DGet H d (.ref na) (valV L (bK n)) := DGet.t e (by rw [bK_V]; exact h)
def standsB (T : Places) (l : LineT) : Bool := (placeIn T l.1).isSome && (placeIn T l.2.1).isSome
def spStands (K : PySem.W.Frag) : Sp := sp2 fun x y H Q _ => ∃ (d la : Addr) (L : List (List Key × V)) (T : Places) (l : LineT), x = .ref d ∧ y = .ref la ∧ H d = some (.dT L) ∧ All2 (plR H) L T ∧ IsLin K H la l ∧ Q (.bl (standsB T l)) H
def WfP (p : LineT × LsChain.Entry) : Prop := 0 < p.1.2.2.1 ∧ p.1.2.2.1 ≤ 100000 ∧ p.2.at_ ≤ p.1.2.2.1 ∧ (mkBes p.2.mark).natAbs ≤ 10000
def spMetPl (K : PySem.W.Frag) : Sp := sp3 fun x y z H Q _ => ∃ (d la ea : Addr) (L : List (List Key × V)) (T : Places) (l : LineT) (e : LsChain.Entry) (p q : Point) (F : Hp), x = .ref d ∧ y = .ref la ∧ z = .ref ea ∧ H d = some (.dT L) ∧ All2 (plR H) L T ∧ IsLin K H la l ∧ IsEnt K H ea e ∧ WfP (l, e) ∧ placeIn T l.1 = some p ∧ placeIn T l.2.1 = some q ∧ Same F H ∧
  Res H F Q (RPt 2300 (along p q l.2.2.1 (e.at_ : Int) (mkBes e.mark)))
section
variable {P : Program} {w : World} {K : PySem.W.Frag} {mg : Str → Option Value} {base : Heap}
theorem ok_lowest_place (T : Txt K mg) : Ok P w K mg base CX0 2 ("lowest_place", none) ["east", "north", "below"] spLowPl := by
  refine mk_ok T 22 rfl sc_lowest_place T.g_lowest_place (fun _ _ _ _ _ _ us hl => match us, hl with | [_, _, _], _ => rfl) len3 (fun cdv A outer s H vs Q E hr h => ?_)
  refine ⟨_, (pss_cons (ps_set (i := 3) sc_lowest_place.nd rfl (Or.inl rfl) (pe_c (ok_common_divisor T) hr (pa_cons (pv 1) (pa_cons (pe_c (ok_common_divisor T) hr (pa_cons (pv 0) (pa_cons (pv 2) pa_nil))) pa_nil))))
      (pss_one (ps_ret (pe_tup (pa_cons (pe_op op_fdivW (pv 0) (pv 3)) (pa_cons (pe_op op_fdivW (pv 1) (pv 3)) (pa_cons (pe_op op_fdivW (pv 2) (pv 3)) pa_nil))))))), ?_⟩
  obtain ⟨x0, x1, x2, rfl, h⟩ := h
  obtain ⟨e, n, b, rfl, rfl, rfl, hb, hs, h⟩ := h
  have g1 := gcd_pos (a := e) hb
  have g0 : (0 : Int) < ((Int.gcd e b : Nat) : Int) := by omega
  have g2 := gcd_pos (a := n) g0
  refine ⟨_, rfl, _, rfl, _, rfl, _, _, rfl, e, b, rfl, rfl, hb, _, _, rfl, n, _, rfl, rfl, g0, ?_⟩
  have hc : ∀ i, CDivW i ((Int.gcd n ((Int.gcd e b : Nat) : Int) : Nat) : Int) := fun i => sm_divW (k := 8999) (by omega) (Sm.of_le (by have a1 := gcd_le (a := e) hb; have a2 := gcd_le (a := n) g0; omega) hs)
  refine ⟨_, rfl, _, rfl, _, _, rfl, rfl, hc _, _, rfl, _, rfl, _, _, rfl, rfl, hc _, _, rfl, _, rfl, _, _, rfl, rfl, hc _, (by show 3 ≤ sizeLine; decide), fun p hp => ?_⟩
  exact h.go (Same.refl _) hp
theorem ok_shares_of (T : Txt K mg) : Ok P w K mg base CX0 3 ("shares_of", none) ["place"] spShares := by
  refine mk_ok T 23 rfl sc_shares_of T.g_shares_of (fun _ _ _ _ _ _ us hl => match us, hl with | [_], _ => rfl) len1 (fun cdv A outer s H vs Q E hr h => ?_)
  refine ⟨_, (pss_cons (ps_asg (pv 0) (pg_tup (by rfl) (pgs_cons (pg_name (i := 1) sc_shares_of.nd rfl (Or.inl rfl)) (pgs_cons (pg_name (i := 2) sc_shares_of.nd rfl (Or.inl rfl)) (pgs_cons (pg_name (i := 3) sc_shares_of.nd rfl (Or.inl rfl)) pgs_nil)))))
      (pss_one (ps_ret (pe_op op_cat (pe_callTy call_list_of (by rfl) T.n_list (by decide +kernel) (pa_cons (pe_c (ok_lowest T) hr (pa_cons (pv 1) (pa_cons (pv 3) pa_nil))) pa_nil)) (pe_callTy call_list_of (by rfl) T.n_list (by decide +kernel) (pa_cons (pe_c (ok_lowest T) hr (pa_cons (pv 2) (pa_cons (pv 3) pa_nil))) pa_nil)))))), ?_⟩
  obtain ⟨x0, rfl, h⟩ := h
  obtain ⟨a, p, rfl, ⟨e, n, b, ha, hb, hg, rfl, s1, s2, s3⟩, h⟩ := h
  refine ⟨_, rfl, a, _, rfl, .of ha, rfl, _, _, rfl, _, _, rfl, _, _, rfl, rfl, ?_⟩
  refine ⟨_, rfl, _, rfl, _, _, rfl, e, b, rfl, rfl, hb, s3, fun p1 H1 hp1 t1 e1 => ⟨p1, _, rfl, .inr (.of e1), fun l1 hl1 => ?_⟩⟩
  refine ⟨_, rfl, _, rfl, _, _, rfl, n, b, rfl, rfl, hb, s3, fun p2 H2 hp2 t2 e2 => ⟨p2, _, rfl, .inr (.of e2), fun l2 hl2 => ?_⟩⟩
  have q1 : upd H2 l2 (.lst (fracV ((n : Rat) / (b : Rat)))) l1 = some (.lst (fracV ((e : Rat) / (b : Rat)))) := by
    have : H2 l1 = some (.lst (fracV ((e : Rat) / (b : Rat)))) := t2 _ _ upd_same
    rw [upd_ne (ne_some this hl2)]
    exact this
  refine ⟨l1, l2, _, _, rfl, rfl, q1, upd_same, (by show 4 ≤ sizeLine; decide), fun p hp => ?_⟩
  exact h.go (same_upd2 (same_upd2 t1 hl1 |>.trans t2) hl2) hp
theorem ok_way (T : Txt K mg) : Ok P w K mg base CX0 1 ("way", none) ["first", "second"] spWay := by
  refine mk_ok T 24 rfl sc_way T.g_way (fun _ _ _ _ _ _ us hl => match us, hl with | [_, _], _ => rfl) len2 (fun cdv A outer s H vs Q E hr h => ?_)
  refine ⟨_, (pss_cons (ps_asg (pv 0) (pg_tup (by rfl) (pgs_cons (pg_name (i := 2) sc_way.nd rfl (Or.inl rfl)) (pgs_cons (pg_name (i := 3) sc_way.nd rfl (Or.inl rfl)) (pgs_cons (pg_name (i := 4) sc_way.nd rfl (Or.inl rfl)) pgs_nil)))))
      (pss_cons (ps_asg (pv 1) (pg_tup (by rfl) (pgs_cons (pg_name (i := 5) sc_way.nd rfl (Or.inl rfl)) (pgs_cons (pg_name (i := 6) sc_way.nd rfl (Or.inl rfl)) (pgs_cons (pg_name (i := 7) sc_way.nd rfl (Or.inl rfl)) pgs_nil)))))
      (pss_one (ps_ret (pe_tup (pa_cons (pe_op op_sub (pe_op op_mulW (pv 5) (pv 4)) (pe_op op_mulW (pv 2) (pv 7))) (pa_cons (pe_op op_sub (pe_op op_mulW (pv 6) (pv 4)) (pe_op op_mulW (pv 3) (pv 7))) pa_nil))))))), ?_⟩
  obtain ⟨x0, x1, rfl, h⟩ := h
  obtain ⟨a, b, e, n, d, e', n', d', rfl, rfl, ha, hb, ⟨s1, s2, s3, s4, s5, s6⟩, h⟩ := h
  refine ⟨_, rfl, a, _, rfl, .of ha, rfl, _, _, rfl, _, _, rfl, _, _, rfl, rfl, _, rfl, b, _, rfl, .of hb, rfl, _, _, rfl, _, _, rfl, _, _, rfl, rfl, ?_⟩
  refine ⟨_, rfl, _, rfl, _, _, rfl, rfl, s4.cmul s3, _, rfl, _, rfl, _, _, rfl, rfl, s1.cmul s6, _, _, rfl, rfl, ?_⟩
  refine ⟨_, rfl, _, rfl, _, _, rfl, rfl, s5.cmul s3, _, rfl, _, rfl, _, _, rfl, rfl, s2.cmul s6, _, _, rfl, rfl, (by show 2 ≤ sizeLine; decide), fun p hp => ?_⟩
  exact h.go (Same.refl _) hp
theorem sm_nat {k n : Nat} (h : n < 2 ^ k) : Sm k (n : Int) := by
  unfold Sm
  omega
theorem ok_place_on (T : Txt K mg) : Ok P w K mg base CX0 3 ("place_on", none) ["first", "second", "measure", "chainage", "beside"] spPlaceOn := by
  refine mk_ok T 25 rfl sc_place_on T.g_place_on (fun _ _ _ _ _ _ us hl => match us, hl with | [_, _, _, _, _], _ => rfl) len5 (fun cdv A outer s H vs Q E hr h => ?_)
  refine ⟨_, (pss_cons (ps_asg (pe_c (ok_way T) hr (pa_cons (pv 0) (pa_cons (pv 1) pa_nil))) (pg_tup (by rfl) (pgs_cons (pg_name (i := 5) sc_place_on.nd rfl (Or.inl rfl)) (pgs_cons (pg_name (i := 6) sc_place_on.nd rfl (Or.inl rfl)) pgs_nil))))
      (pss_cons (ps_asg (pv 0) (pg_tup (by rfl) (pgs_cons (pg_name (i := 7) sc_place_on.nd rfl (Or.inl rfl)) (pgs_cons (pg_name (i := 8) sc_place_on.nd rfl (Or.inl rfl)) (pgs_cons (pg_name (i := 9) sc_place_on.nd rfl (Or.inl rfl)) pgs_nil)))))
      (pss_cons (ps_set (i := 10) sc_place_on.nd rfl (Or.inl rfl) (pe_ix ix_tup (pv 1) pe_int (fun _ _ => rfl)))
      (pss_cons (ps_set (i := 11) sc_place_on.nd rfl (Or.inl rfl) (pe_op op_mulW (pv 10) (pv 2)))
      (pss_cons (ps_set (i := 12) sc_place_on.nd rfl (Or.inl rfl) (pe_op op_sub (pe_op op_add (pe_op op_mulW (pv 7) (pv 11)) (pe_op op_mulW (pv 5) (pv 3))) (pe_op op_mulW (pv 6) (pv 4))))
      (pss_cons (ps_set (i := 13) sc_place_on.nd rfl (Or.inl rfl) (pe_op op_add (pe_op op_add (pe_op op_mulW (pv 8) (pv 11)) (pe_op op_mulW (pv 6) (pv 3))) (pe_op op_mulW (pv 5) (pv 4))))
      (pss_one (ps_ret (pe_c (ok_lowest_place T) hr (pa_cons (pv 12) (pa_cons (pv 13) (pa_cons (pe_op op_mulW (pv 9) (pv 11)) pa_nil)))))))))))), ?_⟩
  obtain ⟨x0, x1, x2, x3, x4, rfl, h⟩ := h
  obtain ⟨a, b, p, q, m, c, o, F, rfl, rfl, rfl, rfl, rfl, ⟨e, n, d, ha, hd, hg, rfl, s1, s2, s3⟩, ⟨e', n', d', hb, hd', hg', rfl, s4, s5, s6⟩, ⟨hm, hm2, hc, ho⟩, hF, h⟩ := h
  have l : ∀ {i}, Sm 1100 i → Sm 4000 i := fun s => s.le (by decide)
  refine ⟨_, rfl, _, rfl, _, _, rfl, a, b, e, n, d, e', n', d', rfl, rfl, ha, hb, ⟨l s1, l s2, l s3, l s4, l s5, l s6⟩, fun p1 H1 hp1 t1 e1 => ?_⟩
  have sx : Sm 2201 (e' * d - e * d') := (s4.mul s3).sub (s1.mul s6)
  have sy : Sm 2201 (n' * d - n * d') := (s5.mul s3).sub (s2.mul s6)
  have sm : Sm 17 (m : Int) := sm_nat (by omega)
  have sc : Sm 17 (c : Int) := sm_nat (by omega)
  have so : Sm 14 o := by
    show o.natAbs < 2 ^ 14
    omega
  have sw : Sm 1117 (d' * (m : Int)) := s6.mul sm
  refine ⟨p1, _, rfl, .of e1, rfl, _, _, rfl, _, _, rfl, rfl, _, rfl, a, _, rfl, .of (t1 _ _ ha), rfl, _, _, rfl, _, _, rfl, _, _, rfl, rfl, ?_⟩
  refine ⟨_, rfl, _, _, _, _, rfl, rfl, .of (t1 _ _ hb), atI_nat (j := 2) rfl, _, rfl, _, rfl, _, _, rfl, rfl, s6.cmul sm, ?_⟩
  refine ⟨_, rfl, _, rfl, _, _, rfl, rfl, s1.cmul sw, _, rfl, _, rfl, _, _, rfl, rfl, sx.cmul sc, _, _, rfl, rfl, _, rfl, _, rfl, _, _, rfl, rfl, sy.cmul so, _, _, rfl, rfl, ?_⟩
  refine ⟨_, rfl, _, rfl, _, _, rfl, rfl, s2.cmul sw, _, rfl, _, rfl, _, _, rfl, rfl, sy.cmul sc, _, _, rfl, rfl, _, rfl, _, rfl, _, _, rfl, rfl, sx.cmul so, _, _, rfl, rfl, ?_⟩
  have sb : Sm 2217 (d * (d' * (m : Int))) := s3.mul sw
  have hB : 0 < d * (d' * (m : Int)) := Int.mul_pos hd (Int.mul_pos hd' (by omega))
  refine ⟨_, rfl, _, rfl, _, rfl, _, rfl, _, _, rfl, rfl, s3.cmul sw, _, _, _, rfl, _, _, _, rfl, rfl, rfl, hB, sb.le (by decide), fun p2 H2 hp2 t2 e2 => ?_⟩
  have g : Gr H F H2 _ := Gr.got hF (t1.free hp2) (t1.trans t2) e2
  refine h _ _ _ g ⟨p2, rfl, _, _, _, upd_same, ?_⟩
  obtain ⟨g', gp, ge, k1, k2, k3, k4, k5⟩ := low_spec (e * (d' * (m : Int)) + (e' * d - e * d') * (c : Int) - (n' * d - n * d') * o) (n * (d' * (m : Int)) + (n' * d - n * d') * (c : Int) + (e' * d - e * d') * o) (d * (d' * (m : Int))) hB
  obtain ⟨r1, r2, r3⟩ := low_le (e * (d' * (m : Int)) + (e' * d - e * d') * (c : Int) - (n' * d - n * d') * o) (n * (d' * (m : Int)) + (n' * d - n * d') * (c : Int) + (e' * d - e * d') * o) (d * (d' * (m : Int))) hB
  refine ⟨k4, k5, (along_place hd hd' hm).symm.trans (low_pt _ _ _ hB).symm, ?_, ?_, ?_⟩
  · refine Sm.of_le r1 (Sm.le (j := 2221) ?_ (by decide))
    exact ((((s1.mul sw).le (by decide : 2217 ≤ 2219)).add ((sx.mul sc).le (by decide))).sub ((sy.mul so).le (by decide)))
  · refine Sm.of_le r2 (Sm.le (j := 2221) ?_ (by decide))
    exact ((((s2.mul sw).le (by decide : 2217 ≤ 2219)).add ((sy.mul sc).le (by decide))).add ((sx.mul so).le (by decide)))
  · exact Sm.of_le r3 (sb.le (by decide))
theorem ok_stands (T : Txt K mg) : Ok P w K mg base CX0 1 ("stands", none) ["places", "line"] (spStands K) := by
  refine mk_ok T 26 rfl sc_stands T.g_stands (fun _ _ _ _ _ _ us hl => match us, hl with | [_, _], _ => rfl) len2 (fun cdv A outer s H vs Q E hr h => ?_)
  refine ⟨_, (pss_one (ps_ret (pe_and (pe_cmp (pc_din (hu_of hr) (pe_fld (pv 1) rfl) (pv 0)) rfl) (pe_one (pe_cmp (pc_din (hu_of hr) (pe_fld (pv 1) rfl) (pv 0)) rfl))))), ?_⟩
  obtain ⟨x0, x1, rfl, h⟩ := h
  obtain ⟨d, la, L, S, l, rfl, rfl, hd, hS, ⟨dx, xa, ya, ea, eas, k1, k2, k3, k4, k5⟩, h⟩ := h
  refine ⟨_, rfl, la, _, dx, _, _, rfl, k1, T.c_Line, T.a_Line_first, rfl, _, rfl, d, _, rfl, dget_name hd k2, _, rfl, ?_⟩
  rw [pl_some hS]
  unfold standsB at h
  cases z : (placeIn S l.1).isSome with
  | false =>
    rw [z] at h
    exact iteF h
  | true =>
    rw [z] at h
    refine iteT ⟨_, rfl, la, _, dx, _, _, rfl, k1, T.c_Line, T.a_Line_second, rfl, _, rfl, d, _, rfl, dget_name hd k3, ?_⟩
    rw [pl_some hS]
    exact h
theorem ok_met_place (T : Txt K mg) : Ok P w K mg base CX0 4 ("met_place", none) ["places", "line", "entry"] (spMetPl K) := by
  refine mk_ok T 27 rfl sc_met_place T.g_met_place (fun _ _ _ _ _ _ us hl => match us, hl with | [_, _, _], _ => rfl) len3 (fun cdv A outer s H vs Q E hr h => ?_)
  refine ⟨_, (pss_cons (ps_set (i := 3) sc_met_place.nd rfl (Or.inl rfl) (pe_dget (hu_of hr) (pv 0) (pe_fld (pv 1) rfl) (fun _ _ => rfl)))
      (pss_cons (ps_set (i := 4) sc_met_place.nd rfl (Or.inl rfl) (pe_dget (hu_of hr) (pv 0) (pe_fld (pv 1) rfl) (fun _ _ => rfl)))
      (pss_one (ps_ret (pe_c (ok_place_on T) hr (pa_cons (pv 3) (pa_cons (pv 4) (pa_cons (pe_fld (pv 1) rfl) (pa_cons (pe_fld (pv 2) rfl) (pa_cons (pe_fld (pv 2) rfl) pa_nil)))))))))), ?_⟩
  obtain ⟨x0, x1, x2, rfl, h⟩ := h
  obtain ⟨d, la, ea, L, S, l, e, p, q, F, rfl, rfl, rfl, hd, hS, ⟨dx, xa, ya, ea', eas, k1, k2, k3, k4, k5⟩, ⟨dy, na, e1, e2⟩, ⟨w1, w2, w3, w4⟩, hp, hq, hF, h⟩ := h
  obtain ⟨pa, v1, i1⟩ := pl_at hS hp
  obtain ⟨qa, v2, i2⟩ := pl_at hS hq
  have d1 := dget_name hd k2
  have d2 := dget_name hd k3
  rw [v1] at d1
  rw [v2] at d2
  refine ⟨_, rfl, _, rfl, la, _, dx, _, _, rfl, k1, T.c_Line, T.a_Line_first, rfl, d, _, rfl, d1, ?_⟩
  refine ⟨_, rfl, _, rfl, la, _, dx, _, _, rfl, k1, T.c_Line, T.a_Line_second, rfl, d, _, rfl, d2, ?_⟩
  refine ⟨_, rfl, _, rfl, _, rfl, la, _, dx, _, _, rfl, k1, T.c_Line, T.a_Line_measure, rfl, ?_⟩
  refine ⟨_, rfl, ea, _, dy, _, _, rfl, e1, T.c_Entry, T.a_Entry_chainage, rfl, _, rfl, ea, _, dy, _, _, rfl, e1, T.c_Entry, T.a_Entry_beside, rfl, ?_⟩
  have w3 : e.at_ ≤ l.2.2.1 := w3
  have w2 : l.2.2.1 ≤ 100000 := w2
  exact ⟨_, _, _, _, _, rfl, pa, qa, p, q, l.2.2.1, e.at_, mkBes e.mark, F, rfl, rfl, rfl, rfl, rfl, i1, i2, ⟨w1, w2, by omega, w4⟩, hF, h⟩
end
end CB
end
section
set_option Elab.async false
set_option linter.all false
set_option maxRecDepth 100000
set_option maxHeartbeats 4000000
namespace CB
open PySem PySem.Spec PyProof.Rows L2
open LsText (Bytes)
open LsChain (Told Mark Set_ Book Places Point placeIn along placed rounds)
def IsPls (F : Hp) (d : Addr) (S : Places) : Prop := ∃ L, F d = some (.dT L) ∧ All2 (plR F) L S
theorem IsPls.mono {F F' : Hp} {d : Addr} {S : Places} (s : Same F F') : IsPls F d S → IsPls F' d S := fun ⟨L, h1, h2⟩ => ⟨L, s _ _ h1, h2.imp (plR.mono s)⟩
def RPls (b : Book) : Hp → V → Prop := fun F v => ∃ d, v = .ref d ∧ IsPls F d (placing b.sets)
def spPlaces (K : PySem.W.Frag) : Sp := sp1 fun x H Q _ => ∃ (a : Addr) (b : Book) (F : Hp), x = .ref a ∧ IsBook K F a b ∧ Same F H ∧ Res H F Q (RPls b)
theorem put_new {H F H1 F1 : Hp} {d na : Addr} {L : List (List Key × V)} {n : Bytes} {v : V} (g : Gr H F H1 F1) (o : Own H H1 F1 d (.dT L)) (hn : IsName H1 na n) (hv : valV L (bK n) = none) (hl : L.length ≤ 5000) {R : Hp → Prop}
    (h : Gr H F (upd H1 d (.dT (L ++ [(bK n, v)]))) F1 → Own H (upd H1 d (.dT (L ++ [(bK n, v)]))) F1 d (.dT (L ++ [(bK n, v)])) → R (upd H1 d (.dT (L ++ [(bK n, v)])))) :
    ∃ a H4, V.ref d = .ref a ∧ DPut H1 a (.ref na) v H4 ∧ R H4 := by
  have p := DPut.t (v := v) o.at_ (show H1 na = some (.tup ((bK n).map kV)) by rw [bK_V]; exact hn) (small_line (by omega))
  rw [putK_new v hv] at p
  exact ⟨d, _, rfl, p, h (g.own o) o.set⟩
theorem pt_whole (x y : Nat) : ((x : Rat), (y : Rat)) = ptOf (x : Int) (y : Int) 1 := by
  unfold ptOf
  push_cast
  have : ∀ z : Rat, z / 1 = z := fun z => by grind
  rw [this, this]
section
variable {P : Program} {w : World} {K : PySem.W.Frag} {mg : Str → Option Value} {base : Heap}
theorem ok_places_of (T : Txt K mg) : Ok P w K mg base CX0 5 ("places_of", none) ["book"] (spPlaces K) := by
  refine mk_ok T 28 rfl sc_places_of T.g_places_of (fun _ _ _ _ _ _ us hl => match us, hl with | [_], _ => rfl) len1 (fun cdv A outer s H vs Q E hr h => ?_)
  refine ⟨_, (pss_cons (ps_set (i := 1) sc_places_of.nd rfl (Or.inl rfl) pe_dnewT)
      (pss_cons (ps_for PassesOwn.never rfl (pi_list (pe_c (ok_knowns_of T) hr (pa_cons (pv 0) pa_nil))) (pg_name (i := 2) sc_places_of.nd rfl (Or.inl rfl))
      (pss_one (ps_dput (hu_of hr) (pv 1) (pe_fld (pv 2) rfl) (pe_tup (pa_cons (pe_fld (pv 2) rfl) (pa_cons (pe_fld (pv 2) rfl) (pa_cons pe_int pa_nil)))) rfl)))
      (pss_cons (ps_set (i := 3) sc_places_of.nd rfl (Or.inl rfl) (pe_c (ok_met_of T) hr (pa_cons (pv 0) (pa_cons (pe_cst T.m_STATION) pa_nil))))
      (pss_cons (ps_for PassesOwn.never rfl (pi_range1 rfl T.n_range (pa_cons (pe_callB call_len (by rfl) T.n_len (by decide +kernel) (pa_cons (pv 3) pa_nil)) pa_nil)) (pg_name (i := 4) sc_places_of.nd rfl (Or.inl rfl))
      (pss_one (ps_for PassesOwn.never rfl (pi_list (pv 3)) (pg_tup (by rfl) (pgs_cons (pg_name (i := 5) sc_places_of.nd rfl (Or.inl rfl)) (pgs_cons (pg_name (i := 6) sc_places_of.nd rfl (Or.inl rfl)) pgs_nil)))
      (pss_one (ps_if (PW.pt (pw_and (pt_cmp (pc_dnotin (hu_of hr) (pe_fld (pv 6) rfl) (pv 1)) rfl) (pw_and1 (pt_val (pe_c (ok_stands T) hr (pa_cons (pv 1) (pa_cons (pv 5) pa_nil))))))) (pss_one (ps_dput (hu_of hr) (pv 1) (pe_fld (pv 6) rfl) (pe_c (ok_met_place T) hr (pa_cons (pv 1) (pa_cons (pv 5) (pa_cons (pv 6) pa_nil)))) rfl)) pss_nil)))))
      (pss_one (ps_ret (pv 1))))))), ?_⟩
  obtain ⟨x0, rfl, h⟩ := h
  obtain ⟨a, b, F, rfl, hb, hF, h⟩ := h
  have wf := hb.1
  have swf := wf.sets_wf
  intro d hd
  have g0 : Gr H F (upd H d (.dT [])) F := (Gr.refl hF).add hd
  refine ⟨_, rfl, _, rfl, a, b, F, rfl, hb, g0.sub, fun la H2 ls hla s2 e2 hls => ?_⟩
  have g1 : Gr (upd H d (.dT [])) F H2 F := ⟨s2, Same.refl _, g0.sub.trans s2, fun _ _ _ => rfl⟩
  have o1 : Own H H2 F d (.dT []) := (Own.first (Gr.refl hF) hd).go g1
  have hkt := knowns_told b
  refine ⟨la, rfl, ⟨_, .of e2⟩, for_list (K := K) (a := la) (xs := rV ls) (fun i σ H' => ∃ F1 L v, σ = [some (.ref a), some (.ref d), v, none, none, none, none] ∧ Gr H F H' F1 ∧ Own H H' F1 d (.dT L) ∧ H' la = some (.lst (rV ls)) ∧ All2 (plR F1) L (((knownsOf b.sets).take i).foldl placed [])) ⟨F, [], none, rfl, g0.trans g1, o1, e2, .nil⟩ ?_ ?_ ?_⟩
  · rintro i σ H' _ ⟨F1, L, v, rfl, g, o, hl, hL⟩
    exact .of hl
  · rintro i x σ H' hx ⟨F1, L, v, rfl, g, o, hl, hL⟩
    obtain ⟨q, hq, rfl⟩ := rV_get hx
    obtain ⟨t, ht, hT⟩ := hls.get hq
    have tk := (List.mem_filter.mp (List.mem_of_getElem? ht)).2
    have te := told_known tk
    have hs : (knownsOf b.sets)[i]? = some (setOfK t) := by
      rw [hkt, List.getElem?_map, ht]
      rfl
    have fr := fold_fresh (knowns_nd wf.nd) hs
    have hL1 := (pl_some (n := (setOfK t).1) hL)
    rw [fr] at hL1
    have hv : valV L (bK (knoOf t).1) = none := by
      cases z : valV L (bK (knoOf t).1) with
      | none => rfl
      | some u =>
        have : (valV L (bK (setOfK t).1)) = some u := z
        rw [this] at hL1
        cases hL1
    have wT := wf.told _ (List.mem_filter.mp (List.mem_of_getElem? ht)).1
    rw [te] at hT wT
    obtain ⟨kx, na, k1, k2⟩ := hT
    have k1' := g.sub _ _ (g.fr _ _ k1)
    refine ⟨_, rfl, q, _, kx, _, _, rfl, k1', T.c_Known, T.a_Known_x, rfl, _, rfl, q, _, kx, _, _, rfl, k1', T.c_Known, T.a_Known_y, rfl, (by show 3 ≤ sizeLine; decide), fun t1 ht1 => ?_⟩
    have g2 := g.put (o := .tup [.int ((knoOf t).2.1 : Int), .int ((knoOf t).2.2 : Int), .int 1]) ht1
    have o2 := o.put (u := .tup [.int ((knoOf t).2.1 : Int), .int ((knoOf t).2.2 : Int), .int 1]) ht1
    refine ⟨_, rfl, _, rfl, q, _, kx, _, _, rfl, g2.sub _ _ (g2.fr _ _ k1), T.c_Known, T.a_Known_name, rfl, ?_⟩
    have len : L.length ≤ 64 := by
      rw [hL.len]
      have so : Sound b.sets (((knownsOf b.sets).take i).foldl placed []) := (Sound.nil b.sets).fold (fun s h => (List.mem_filter.mp (List.take_subset _ _ h)).1)
      exact Nat.le_trans so.len wf.s64
    refine put_new g2 o2 ((k2.mono g2.fr).mono g2.sub) hv (by omega) fun g3 o3 => ?_
    refine ⟨_, _, _, rfl, g3, o3, ?_, ?_⟩
    · rw [upd_ne (fun z => ?_), upd_ne (ne_some hl ht1)]
      · exact hl
      · rw [z, upd_same] at hla
        cases hla
    · rw [take_fold hs]
      rw [placed_new fr]
      refine (hL.imp (plR.mono (same_upd (free_sub g.sub ht1)))).snoc ⟨rfl, t1, rfl, _, _, _, upd_same, by decide, ?_, pt_whole _ _, ?_, ?_, ?_⟩
      · simp
      · have : (knoOf t).2.1 ≤ 999999 := wT.2.1
        exact (sm_nat (k := 20) (by omega)).le (by decide)
      · have : (knoOf t).2.2 ≤ 999999 := wT.2.2
        exact (sm_nat (k := 20) (by omega)).le (by decide)
      · exact (sm_nat (k := 20) (n := 1) (by decide)).le (by decide)
  · rintro σ H3 ⟨F1, L, v, rfl, g, o, hl, hL⟩
    have hlen : (rV ls).length = (knownsOf b.sets).length := by rw [rV_len, hls.len, hkt, List.length_map]
    rw [hlen, List.take_length] at hL
    refine ⟨_, rfl, _, _, rfl, a, b, 0, F1, rfl, rfl, hb.mono g.fr, g.sub, ?_⟩
    rintro _ H4 F4 g4 ⟨ha, hs, rfl, hha, hhs⟩
    have o4 := o.go g4
    have g5 := g.trans g4
    have e5 := g4.keep _ _ hl
    have hL4 := hL.imp (plR.mono g4.fr)
    have hu : hungOf b.sets = (metS b).map setOfP := hung_told b
    have hlen : (hungOf b.sets).length = hs.length := by rw [hu, List.length_map, hhs.len]; rfl
    have sz : hs.length ≤ 512 := by
      rw [hhs.len]
      have l1 := List.length_filter_le (fun p : LineT × LsChain.Entry => mkKind p.2.mark == 0) (entriesL b)
      have l2 := entries_len b
      have l3 := wf.e512
      show ((entriesL b).filter fun p : LineT × LsChain.Entry => mkKind p.2.mark == 0).length ≤ 512
      omega
    have so0 : Sound b.sets ((knownsOf b.sets).foldl placed []) := (Sound.nil b.sets).fold (fun s h => (List.mem_filter.mp h).1)
    have ta0 : TameAll ((knownsOf b.sets).foldl placed []) := TameAll.nil.fold (fun s h => swf s (List.mem_filter.mp h).1)
    have hus : ∀ s ∈ hungOf b.sets, s ∈ b.sets := fun s h => (List.mem_filter.mp h).1
    let St : Nat → Nat → Places := fun i j => ((hungOf b.sets).take j).foldl placed (rounds (hungOf b.sets) i ((knownsOf b.sets).foldl placed []))
    have soS : ∀ i j, Sound b.sets (St i j) := fun i j => (so0.rounds hus).fold (fun s h => hus s (List.take_subset _ _ h))
    have taS : ∀ i j, TameAll (St i j) := fun i j => (ta0.rounds (fun s h => swf s (hus s h))).fold (fun s h => swf s (hus s (List.take_subset _ _ h)))
    let Inv0 : Nat → Nat → L2.St → Hp → Prop := fun i j σ H' => ∃ F5 L x1 x2 x3 x4, σ = [some (.ref a), some (.ref d), x1, some (.ref ha), x2, x3, x4] ∧ Gr H F H' F5 ∧ Own H H' F5 d (.dT L) ∧ F5 ha = some (.lst (rV hs)) ∧ All2 (IsPair K F5) hs (metS b) ∧ All2 (plR F5) L (St i j)
    refine ⟨_, rfl, _, _, rfl, .inl ⟨_, .of (g4.sub _ _ hha), rfl⟩, ((rV hs).length : Int), rfl, by omega, by rw [rV_len]; omega, for_range (lo := 0) (n := ((rV hs).length : Int).toNat) (fun i σ H' => Inv0 i 0 σ H') ⟨F4, L, _, _, _, _, rfl, g5, o4, hha, hhs, hL4⟩ ?_ ?_⟩
    · rintro i σ H' hi ⟨F5, L, x1, x2, x3, x4, rfl, g, o, hh, hp, hL⟩
      refine ⟨_, rfl, ha, rfl, ⟨_, .of (g.sub _ _ hh)⟩, for_list (K := K) (a := ha) (xs := rV hs) (fun j σ H' => Inv0 i j σ H') ⟨F5, L, _, _, _, _, rfl, g, o, hh, hp, hL⟩ ?_ ?_ ?_⟩
      · rintro j σ H' _ ⟨F5, L, x1, x2, x3, x4, rfl, g, o, hh, hp, hL⟩
        exact .of (g.sub _ _ hh)
      · rintro j x σ H' hx ⟨F5, L, x1, x2, x3, x4, rfl, g, o, hh, hp, hL⟩
        obtain ⟨q, hq, rfl⟩ := rV_get hx
        obtain ⟨pr, hpr, hP⟩ := hp.get hq
        obtain ⟨l1, e1, q1, q2, q3⟩ := hP
        have mem := List.mem_of_getElem? hpr
        obtain ⟨m1, m2, m3, m4⟩ := metS_mem mem
        obtain ⟨ex, na, q4, q5⟩ := id q3
        have hs' : (hungOf b.sets)[j]? = some (setOfP pr) := by
          rw [hu, List.getElem?_map, hpr]
          rfl
        have step : St i (j + 1) = placed (St i j) (setOfP pr) := take_fold hs' _
        refine ⟨q, _, rfl, .of (g.sub _ _ q1), rfl, _, _, rfl, _, _, rfl, rfl, ?_⟩
        refine ⟨_, rfl, e1, _, ex, _, _, rfl, g.sub _ _ q4, T.c_Entry, T.a_Entry_name, rfl, _, rfl, d, _, rfl, dget_name o.at_ (q5.mono g.sub), ?_⟩
        refine ⟨_, rfl, ?_⟩
        rw [pl_some hL]
        have hLH := hL.imp (plR.mono g.sub)
        cases z : (placeIn (St i j) (mkName pr.2.mark)).isSome with
        | true =>
          refine iteF ⟨F5, L, x1, x2, _, _, rfl, g, o, hh, hp, ?_⟩
          rw [step, placed_at1 z]
          exact hL
        | false =>
          refine iteT ⟨_, rfl, _, rfl, _, _, rfl, d, l1, L, St i j, pr.1, rfl, rfl, o.at_, hLH, q2.mono g.sub, _, rfl, ?_⟩
          cases z2 : standsB (St i j) pr.1 with
          | false =>
            refine iteF ⟨F5, L, x1, x2, _, _, rfl, g, o, hh, hp, ?_⟩
            rw [step, placed_at2 z z2]
            exact hL
          | true =>
            unfold standsB at z2
            obtain ⟨z3, z4⟩ := Bool.and_eq_true_iff.mp z2
            obtain ⟨pp, hpp⟩ := Option.isSome_iff_exists.mp z3
            obtain ⟨qq, hqq⟩ := Option.isSome_iff_exists.mp z4
            have wp : WfP pr := wf.pair m1 m2
            refine iteT ⟨_, rfl, _, rfl, _, rfl, _, _, _, rfl, d, l1, e1, L, St i j, pr.1, pr.2, pp, qq, F5, rfl, rfl, rfl, o.at_, hLH, q2.mono g.sub, q3.mono g.sub, wp, hpp, hqq, g.sub, ?_⟩
            rintro _ H6 F6 g6 ⟨t1, rfl, pt⟩
            have o6 := o.go g6
            have g7 := g.trans g6
            refine ⟨_, rfl, _, rfl, e1, _, ex, _, _, rfl, g7.sub _ _ (g6.fr _ _ q4), T.c_Entry, T.a_Entry_name, rfl, ?_⟩
            have hv : valV L (bK (mkName pr.2.mark)) = none := by
              have := pl_some (n := mkName pr.2.mark) hL
              rw [z] at this
              cases w : valV L (bK (mkName pr.2.mark)) with
              | none => rfl
              | some u => rw [w] at this; cases this
            have len : L.length ≤ 64 := by
              rw [hL.len]
              exact Nat.le_trans (soS i j).len wf.s64
            rw [m4] at pt
            have stp : St i (j + 1) = St i j ++ [(mkName pr.2.mark, along pp qq pr.1.2.2.1 (pr.2.at_ : Int) 0)] := by rw [step, placed_at3 z hpp hqq]
            refine put_new g7 o6 ((q5.mono g6.fr).mono g7.sub) hv (by omega) fun g8 o8 => ?_
            refine ⟨F6, _, x1, x2, _, _, rfl, g8, o8, g6.fr _ _ hh, hp.imp fun _ _ => IsPair.mono g6.fr, ?_⟩
            rw [stp]
            refine (hL.imp (plR.mono g6.fr)).snoc ⟨rfl, t1, rfl, ?_⟩
            obtain ⟨xe, xn, xb, y1, y2, y3, y4, _⟩ := pt
            have ta := taS i (j + 1)
            rw [stp] at ta
            have tm : Tame _ (along pp qq pr.1.2.2.1 (pr.2.at_ : Int) 0) := ta.get (n := mkName pr.2.mark) (by
              rw [placeIn_snoc _ _ _ _ (by cases w : placeIn (St i j) (mkName pr.2.mark) with | none => rfl | some u => rw [w] at z; cases z), if_pos rfl])
            have lk : (St i j ++ [(mkName pr.2.mark, along pp qq pr.1.2.2.1 (pr.2.at_ : Int) 0)]).length ≤ 64 := by
              rw [← stp]
              exact Nat.le_trans (soS i (j + 1)).len wf.s64
            exact ⟨xe, xn, xb, y1, y2, y3, y4, tm.small lk y2 y3 y4⟩
      · rintro σ H' ⟨F5, L, x1, x2, x3, x4, rfl, g, o, hh, hp, hL⟩
        refine ⟨F5, L, x1, x2, x3, x4, rfl, g, o, hh, hp, ?_⟩
        have e : St i (rV hs).length = St (i + 1) 0 := by
          show ((hungOf b.sets).take (rV hs).length).foldl placed _ = rounds (hungOf b.sets) (i + 1) _
          rw [rV_len, ← hlen, List.take_length, rounds_succ]
        rw [← e]
        exact hL
    · rintro σ H' ⟨F5, L, x1, x2, x3, x4, rfl, g, o, hh, hp, hL⟩
      have e : St ((rV hs).length : Int).toNat 0 = placing b.sets := by
        show rounds (hungOf b.sets) _ _ = rounds (hungOf b.sets) (hungOf b.sets).length _
        rw [rV_len, ← hlen]
        rfl
      rw [e] at hL
      exact ⟨_, rfl, h _ _ _ (g.freeze o.new o.out o.at_) ⟨d, rfl, L, upd_same, hL.imp (plR.mono (same_upd o.out))⟩⟩
end
end CB
end
section
set_option Elab.async false
set_option linter.all false
set_option maxRecDepth 100000
set_option maxHeartbeats 4000000
namespace CB
open PySem PySem.Spec PyProof.Rows L2
open LsText (Bytes)
open LsChain (Told Mark Set_ Book Places Point placeIn along placed rounds)
def lnR (K : PySem.W.Frag) (F : Hp) (kv : List Key × V) (p : LineT × LsChain.Entry) : Prop := kv.1 = bK (mkName p.2.mark) ∧ ∃ a, kv.2 = .ref a ∧ IsLin K F a p.1
theorem lnR.mono {K : PySem.W.Frag} {F F' : Hp} (s : Same F F') (kv : List Key × V) (p : LineT × LsChain.Entry) : lnR K F kv p → lnR K F' kv p := fun ⟨h, a, h1, h2⟩ => ⟨h, a, h1, h2.mono s⟩
def IsLns (K : PySem.W.Frag) (F : Hp) (d : Addr) (b : Book) : Prop := ∃ L, F d = some (.dT L) ∧ All2 (lnR K F) L (metS b)
theorem IsLns.mono {K : PySem.W.Frag} {F F' : Hp} {d : Addr} {b : Book} (s : Same F F') : IsLns K F d b → IsLns K F' d b := fun ⟨L, h1, h2⟩ => ⟨L, s _ _ h1, h2.imp (lnR.mono s)⟩
def RLns (K : PySem.W.Frag) (b : Book) : Hp → V → Prop := fun F v => ∃ d, v = .ref d ∧ IsLns K F d b
def spLinesBy (K : PySem.W.Frag) : Sp := sp1 fun x H Q _ => ∃ (a : Addr) (b : Book) (F : Hp), x = .ref a ∧ IsBook K F a b ∧ Same F H ∧ Res H F Q (RLns K b)
theorem ln_none {K : PySem.W.Frag} {F : Hp} {n : Bytes} : ∀ {L : List (List Key × V)} {ps : List (LineT × LsChain.Entry)}, All2 (lnR K F) L ps → n ∉ ps.map (fun p => mkName p.2.mark) → valV L (bK n) = none
  | _, _, .nil, _ => rfl
  | kv :: L, p :: ps, .cons ⟨h, _⟩ t, hn => by
    rw [List.map_cons, List.mem_cons, not_or] at hn
    rw [valV_neg (fun z => hn.1 (bK_inj (z.symm.trans h)))]
    exact ln_none t hn.2
theorem ln_get {K : PySem.W.Frag} {F : Hp} {n : Bytes} : ∀ {L : List (List Key × V)} {ps : List (LineT × LsChain.Entry)}, All2 (lnR K F) L ps → (valV L (bK n) = none ∧ n ∉ ps.map (fun p => mkName p.2.mark)) ∨ ∃ p a, p ∈ ps ∧ mkName p.2.mark = n ∧ valV L (bK n) = some (.ref a) ∧ IsLin K F a p.1
  | _, _, .nil => .inl ⟨rfl, by simp⟩
  | kv :: L, p :: ps, .cons ⟨h, a, h1, h2⟩ t => by
    by_cases e : mkName p.2.mark = n
    · exact .inr ⟨p, a, by simp, e, by rw [valV_pos (h.trans (by rw [e])), h1], h2⟩
    · rw [valV_neg (fun z => e (bK_inj (h.symm.trans z)))]
      rcases ln_get (n := n) t with ⟨h1, h2⟩ | ⟨q, a, h1, h2, h3, h4⟩
      · exact .inl ⟨h1, by rw [List.map_cons, List.mem_cons, not_or]; exact ⟨fun z => e z.symm, h2⟩⟩
      · exact .inr ⟨q, a, by simp [h1], h2, h3, h4⟩
theorem same_mut {H H' : Hp} {p : Addr} {o : HO} (s : Same H H') (n : H p = none) : Same H (upd H' p o) := fun b u e => by
  rw [upd_ne (ne_some e n)]
  exact s b u e
def spGrounds (K : PySem.W.Frag) : Sp := sp2 fun x y H Q _ => ∃ (d na : Addr) (b : Book) (n : Bytes), x = .ref d ∧ y = .ref na ∧ WfB b ∧ IsLns K H d b ∧ IsName H na n ∧
  ∀ g H2 ns, H g = none → Same H H2 → H2 g = some (.dT (nmK ns)) → ns.length ≤ 129 → (∀ x, x ∈ ns ↔ Reach b.sets n x) → Q (.ref g) H2
section
variable {P : Program} {w : World} {K : PySem.W.Frag} {mg : Str → Option Value} {base : Heap}
theorem ok_lines_by_station (T : Txt K mg) : Ok P w K mg base CX0 4 ("lines_by_station", none) ["book"] (spLinesBy K) := by
  refine mk_ok T 29 rfl sc_lines_by_station T.g_lines_by_station (fun _ _ _ _ _ _ us hl => match us, hl with | [_], _ => rfl) len1 (fun cdv A outer s H vs Q E hr h => ?_)
  refine ⟨_, (pss_cons (ps_set (i := 1) sc_lines_by_station.nd rfl (Or.inl rfl) pe_dnewT)
      (pss_cons (ps_for PassesOwn.never rfl (pi_list (pe_c (ok_met_of T) hr (pa_cons (pv 0) (pa_cons (pe_cst T.m_STATION) pa_nil)))) (pg_tup (by rfl) (pgs_cons (pg_name (i := 2) sc_lines_by_station.nd rfl (Or.inl rfl)) (pgs_cons (pg_name (i := 3) sc_lines_by_station.nd rfl (Or.inl rfl)) pgs_nil)))
      (pss_one (ps_dput (hu_of hr) (pv 1) (pe_fld (pv 3) rfl) (pv 2) rfl)))
      (pss_one (ps_ret (pv 1))))), ?_⟩
  obtain ⟨x0, rfl, h⟩ := h
  obtain ⟨a, b, F, rfl, hb, hF, h⟩ := h
  have wf := hb.1
  intro d hd
  have g0 : Gr H F (upd H d (.dT [])) F := (Gr.refl hF).add hd
  refine ⟨_, rfl, _, _, rfl, a, b, 0, F, rfl, rfl, hb, g0.sub, ?_⟩
  rintro _ H1 F1 g1 ⟨ha, hs, rfl, hha, hhs⟩
  have o1 : Own H H1 F1 d (.dT []) := (Own.first (Gr.refl hF) hd).go g1
  refine ⟨ha, rfl, ⟨_, .of (g1.sub _ _ hha)⟩, for_list (K := K) (a := ha) (xs := rV hs) (fun i σ H' => ∃ L x1 x2, σ = [some (.ref a), some (.ref d), x1, x2] ∧ Gr H F H' F1 ∧ Own H H' F1 d (.dT L) ∧ All2 (lnR K F1) L ((metS b).take i)) ⟨[], none, none, rfl, g0.trans g1, o1, .nil⟩ ?_ ?_ ?_⟩
  · rintro i σ H' _ ⟨L, x1, x2, rfl, g, o, hL⟩
    exact .of (g.sub _ _ hha)
  · rintro i x σ H' hx ⟨L, x1, x2, rfl, g, o, hL⟩
    obtain ⟨q, hq, rfl⟩ := rV_get hx
    obtain ⟨pr, hpr, l1, e1, q1, q2, q3⟩ := hhs.get hq
    have hpr : (metS b)[i]? = some pr := hpr
    obtain ⟨ex, na, q4, q5⟩ := id q3
    have hv : valV L (bK (mkName pr.2.mark)) = none := ln_none hL (fresh_in (metS_nd wf.nd) hpr)
    have len : L.length ≤ 512 := by
      rw [hL.len, List.length_take]
      have l1 : (metS b).length ≤ _ := List.length_filter_le (fun p : LineT × LsChain.Entry => mkKind p.2.mark == 0) (entriesL b)
      have l2 := entries_len b
      have l3 := wf.e512
      omega
    refine ⟨q, _, rfl, .of (g.sub _ _ q1), rfl, _, _, rfl, _, _, rfl, rfl, ?_⟩
    refine ⟨_, rfl, _, rfl, _, rfl, e1, _, ex, _, _, rfl, g.sub _ _ q4, T.c_Entry, T.a_Entry_name, rfl, ?_⟩
    refine put_new g o (q5.mono g.sub) hv (by omega) fun g2 o2 => ?_
    refine ⟨_, _, _, rfl, g2, o2, ?_⟩
    rw [take_snoc hpr]
    exact hL.snoc ⟨rfl, l1, rfl, q2⟩
  · rintro σ H' ⟨L, x1, x2, rfl, g, o, hL⟩
    have hlen : (rV hs).length = (metS b).length := by rw [rV_len, hhs.len]; rfl
    rw [hlen, List.take_length] at hL
    exact ⟨_, rfl, h _ _ _ (g.freeze o.new o.out o.at_) ⟨d, rfl, L, upd_same, hL.imp (lnR.mono (same_upd o.out))⟩⟩
theorem ok_grounds (T : Txt K mg) : Ok P w K mg base CX0 1 ("grounds", none) ["lines", "name"] (spGrounds K) := by
  refine mk_ok T 30 rfl sc_grounds T.g_grounds (fun _ _ _ _ _ _ us hl => match us, hl with | [_, _], _ => rfl) len2 (fun cdv A outer s H vs Q E hr h => ?_)
  refine ⟨_, (pss_cons (ps_set (i := 2) sc_grounds.nd rfl (Or.inl rfl) (pe_disp1 (hu_of hr) (pv 1) pe_bl))
      (pss_cons (ps_set (i := 3) sc_grounds.nd rfl (Or.inl rfl) (pe_lst (pa_cons (pv 1) pa_nil)))
      (pss_cons (ps_while PassesOwn.never (pt_truth (pv 3) (by intro _; rfl)) (pss_cons (ps_set (i := 4) sc_grounds.nd rfl (Or.inl rfl) (pe_bm0 PySem.F.plainAttrs_list PySem.F.slot_list_pop PySem.F.type_list_pop mt_pop (pv 3)))
      (pss_cons (ps_if (pt_cmp (pc_dnotin (hu_of hr) (pv 4) (pv 0)) rfl) (pss_one ps_continue) pss_nil)
      (pss_one (ps_for PassesOwn.never rfl (pi_tup (pe_tup (pa_cons (pe_fld (pe_dget (hu_of hr) (pv 0) (pv 4) (fun _ _ => rfl)) rfl) (pa_cons (pe_fld (pe_dget (hu_of hr) (pv 0) (pv 4) (fun _ _ => rfl)) rfl) pa_nil)))) (pg_name (i := 5) sc_grounds.nd rfl (Or.inl rfl))
      (pss_one (ps_if (pt_cmp (pc_dnotin (hu_of hr) (pv 5) (pv 2)) rfl) (pss_cons (ps_dput (hu_of hr) (pv 2) (pv 5) pe_bl rfl)
      (pss_one (ps_expr (pe_bm PySem.F.plainAttrs_list PySem.F.slot_list_append PySem.F.type_list_append mt_append (pv 3) (pa_cons (pv 5) pa_nil))))) pss_nil)))))))
      (pss_one (ps_ret (pv 2)))))), ?_⟩
  obtain ⟨x0, x1, rfl, h⟩ := h
  obtain ⟨d, na, b, n, rfl, rfl, wf, ⟨L, hd, hL⟩, hna, h⟩ := h
  intro fd hfd
  have s1 : Same H (upd H fd (.dT [])) := same_upd hfd
  refine ⟨_, rfl, na, bK n, rfl, upd_same, by rw [bK_V]; exact hna.mono s1, ?_⟩
  rw [upd_upd]
  have s2 : Same H (upd H fd (.dT [(bK n, .bl true)])) := same_upd hfd
  refine ⟨_, rfl, (by show 1 ≤ sizeLine; decide), fun wl hwl => ?_⟩
  have hwl0 : H wl = none := s2.free hwl
  have fw : fd ≠ wl := fun z => by rw [z, upd_same] at hwl; cases hwl
  have sl : b.sets.length ≤ 64 := wf.s64
  refine ⟨fun m σ H' => ∃ f ws was v4 v5, σ = [some (.ref d), some (.ref na), some (.ref fd), some (.ref wl), v4, v5] ∧ Same H H' ∧ H' fd = some (.dT (nmK f)) ∧ H' wl = some (.lst (rV was)) ∧ All2 (IsName H) was ws ∧ (Waits b.sets n f ws ∧ ws.length ≤ f.length) ∧ m = 2 * (129 - f.length) + ws.length, ⟨_, [n], [n], [na], none, none, rfl, same_mut s2 hwl0, ?_, upd_same, .cons hna .nil, ⟨Waits.start _ _, Nat.le_refl _⟩, rfl⟩, ?_⟩
  · rw [upd_ne fw, upd_same]
    rfl
  · rintro m σ H' ⟨f, ws, was, v4, v5, rfl, sH, hf, hw, hA, ⟨hW, hWl⟩, rfl⟩
    refine ⟨_, rfl, _, .inl ⟨_, .of hw, rfl⟩, ?_⟩
    rcases List.eq_nil_or_concat was with e | ⟨was', oa, e⟩
    · subst e
      cases hA
      refine iteF ⟨_, rfl, h fd H' f hfd sH hf ?_ hW.done⟩
      have := hW.found_len
      omega
    · rw [List.concat_eq_append] at e
      subst e
      have ⟨ws', one, ew, hA', ho⟩ : ∃ ws' one, ws = ws' ++ [one] ∧ All2 (IsName H) was' ws' ∧ IsName H oa one := by
        rcases List.eq_nil_or_concat ws with e | ⟨ws', one, e⟩
        · subst e
          have := hA.len
          simp at this
        · rw [List.concat_eq_append] at e
          refine ⟨ws', one, e, ?_⟩
          subst e
          have ln := hA.len
          rw [List.length_append, List.length_append] at ln
          have : ∀ {x : List Addr} {y : List Bytes}, All2 (IsName H) (x ++ [oa]) (y ++ [one]) → All2 (IsName H) x y ∧ IsName H oa one := fun {x} => by
            induction x with
            | nil =>
              intro y q
              cases y with
              | nil =>
                cases q with
                | cons h t => exact ⟨.nil, h⟩
              | cons y ys =>
                have := q.len
                simp at this
            | cons x xs ih =>
              intro y q
              cases y with
              | nil =>
                have := q.len
                simp at this
              | cons y ys =>
                cases q with
                | cons h t => exact ⟨.cons h (ih t).1, (ih t).2⟩
          exact this hA
      subst ew
      have ne : (!(rV (was' ++ [oa])).isEmpty) = true := by rw [rV_snoc]; simp
      rw [ne]
      refine iteT ?_
      refine ⟨fun σ' H'' => ∃ m', m' < 2 * (129 - f.length) + (ws' ++ [one]).length ∧ ∃ f ws was v4 v5, σ' = [some (.ref d), some (.ref na), some (.ref fd), some (.ref wl), v4, v5] ∧ Same H H'' ∧ H'' fd = some (.dT (nmK f)) ∧ H'' wl = some (.lst (rV was)) ∧ All2 (IsName H) was ws ∧ (Waits b.sets n f ws ∧ ws.length ≤ f.length) ∧ m' = 2 * (129 - f.length) + ws.length, fun σ' H'' q => q, ?_⟩
      refine ⟨_, rfl, .inl ⟨rfl, _, SqL.of hw⟩, wl, _, _, rfl, rfl, hw, by rw [rV_snoc]; simp; rfl, ?_⟩
      have ed : (rV (was' ++ [oa])).dropLast = rV was' := by rw [rV_snoc]; simp
      rw [ed]
      have sH2 : Same H (upd H' wl (.lst (rV was'))) := same_mut sH hwl0
      have hf2 : upd H' wl (.lst (rV was')) fd = some (.dT (nmK f)) := by rw [upd_ne fw]; exact hf
      refine ⟨_, rfl, _, rfl, d, _, rfl, dget_name (sH2 _ _ hd) (ho.mono sH2), _, rfl, ?_⟩
      rcases ln_get (n := one) hL with ⟨k1, k2⟩ | ⟨p, la, k1, k2, k3, k4⟩
      · rw [k1]
        refine iteT ⟨_, ?_, f, ws', was', _, v5, rfl, sH2, hf2, upd_same, hA', ⟨hW.leaf (fun u hu => ?_), by rw [List.length_append, List.length_singleton] at hWl; omega⟩, rfl⟩
        · rw [List.length_append, List.length_singleton]
          omega
        · cases u with
          | known x y => rfl
          | on x y m c =>
            obtain ⟨p, hp, e⟩ := metS_of_set hu
            exact absurd (List.mem_map_of_mem (f := fun p : LineT × LsChain.Entry => mkName p.2.mark) hp) (by
              have : mkName p.2.mark = one := congrArg Prod.fst e
              rw [this]
              exact k2)
      · rw [k3]
        refine iteF ?_
        obtain ⟨dx, xa, ya, ea, eas, t1, t2, t3, t4, t5⟩ := k4
        have dg : ∀ {H3 : Hp}, Same H H3 → DGet H3 d (.ref oa) (some (.ref la)) := fun s => by
          have := dget_name (s _ _ hd) (ho.mono s)
          rw [k3] at this
          exact this
        refine ⟨_, rfl, _, rfl, d, _, rfl, dg sH2, la, _, dx, _, _, rfl, sH2 _ _ t1, T.c_Line, T.a_Line_first, rfl, ?_⟩
        refine ⟨_, rfl, _, rfl, d, _, rfl, dg sH2, la, _, dx, _, _, rfl, sH2 _ _ t1, T.c_Line, T.a_Line_second, rfl, (by show 2 ≤ sizeLine; decide), fun t ht => ?_⟩
        let stt : Nat → List Bytes × List Bytes := fun i => if i = 0 then (f, ws') else if i = 1 then putEnd f ws' p.1.1 else putEnd (putEnd f ws' p.1.1).1 (putEnd f ws' p.1.1).2 p.1.2.1
        have hset : (one, Set_.on p.1.1 p.1.2.1 p.1.2.2.1 p.2.at_) ∈ b.sets := by
          have := set_of_metS k1
          rw [← k2]
          exact this
        have W2 : Waits b.sets n (stt 2).1 (stt 2).2 := hW.line wf.nd hset
        have lenS : ∀ i, i ≤ 2 → (stt i).1.length ≤ (stt 2).1.length := fun i hi => by
          have a1 := putEnd_len f ws' p.1.1
          have a2 := putEnd_len (putEnd f ws' p.1.1).1 (putEnd f ws' p.1.1).2 p.1.2.1
          rcases (show i = 0 ∨ i = 1 ∨ i = 2 by omega) with rfl | rfl | rfl
          · show f.length ≤ (putEnd (putEnd f ws' p.1.1).1 (putEnd f ws' p.1.1).2 p.1.2.1).1.length
            omega
          · show (putEnd f ws' p.1.1).1.length ≤ (putEnd (putEnd f ws' p.1.1).1 (putEnd f ws' p.1.1).2 p.1.2.1).1.length
            omega
          · exact Nat.le_refl _
        have fl2 := W2.found_len
        have ht0 : H t = none := sH2.free ht
        have tf : t ≠ fd := fun z => by rw [z] at ht; rw [hf2] at ht; cases ht
        have tw : t ≠ wl := fun z => by rw [z, upd_same] at ht; cases ht
        let Pv : Nat → L2.St → Hp → Prop := fun i σ H' => ∃ was v5, σ = [some (.ref d), some (.ref na), some (.ref fd), some (.ref wl), some (.ref oa), v5] ∧ Same H H' ∧ H' fd = some (.dT (nmK (stt i).1)) ∧ H' wl = some (.lst (rV was)) ∧ H' t = some (.tup [.ref xa, .ref ya]) ∧ All2 (IsName H) was (stt i).2
        rw [List.length_append, List.length_singleton] at hWl
        have lenB : ∀ i, i ≤ 2 → (stt i).2.length + f.length = (stt i).1.length + ws'.length := fun i hi => by
          have a1 := putEnd_len f ws' p.1.1
          have a2 := putEnd_len (putEnd f ws' p.1.1).1 (putEnd f ws' p.1.1).2 p.1.2.1
          rcases (show i = 0 ∨ i = 1 ∨ i = 2 by omega) with rfl | rfl | rfl
          · show ws'.length + f.length = f.length + ws'.length
            omega
          · show (putEnd f ws' p.1.1).2.length + f.length = (putEnd f ws' p.1.1).1.length + ws'.length
            omega
          · show (putEnd (putEnd f ws' p.1.1).1 (putEnd f ws' p.1.1).2 p.1.2.1).2.length + f.length = (putEnd (putEnd f ws' p.1.1).1 (putEnd f ws' p.1.1).2 p.1.2.1).1.length + ws'.length
            omega
        refine ⟨t, rfl, ⟨_, .of upd_same⟩, for_it (walk_tup (K := K) (a := t) (xs := [.ref xa, .ref ya])) Pv ?_ ?_ ?_ ?_⟩
        · refine ⟨was', v5, rfl, same_upd2 sH2 ht, ?_, ?_, upd_same, hA'⟩
          · rw [upd_ne (Ne.symm tf)]
            exact hf2
          · rw [upd_ne (Ne.symm tw)]
            exact upd_same
        · rintro i σ H3 _ ⟨was, v, rfl, s3, f3, w3, t3', a3⟩
          exact .of t3'
        · rintro i x σ H3 H4 hi ⟨was, v, rfl, s3, f3, w3, t3', a3⟩ ⟨rfl, hx⟩
          have ⟨en, ea', e1, e2, e3⟩ : ∃ (en : Bytes) (ea' : Addr), x = .ref ea' ∧ IsName H ea' en ∧ stt (i + 1) = putEnd (stt i).1 (stt i).2 en := by
            rcases (show i = 0 ∨ i = 1 by have : i < 2 := hi; omega) with rfl | rfl
            · exact ⟨p.1.1, xa, (Option.some.inj hx).symm, t2, rfl⟩
            · exact ⟨p.1.2.1, ya, (Option.some.inj hx).symm, t3, rfl⟩
          subst e1
          have i2 : i + 1 ≤ 2 := hi
          have fl := lenS i (by omega)
          refine ⟨_, rfl, _, rfl, fd, _, rfl, dget_name f3 (e2.mono s3), ?_⟩
          rw [nmK_val]
          by_cases c : (stt i).1.contains en = true
          · rw [if_pos c]
            have c' : en ∈ (stt i).1 := by simpa using c
            refine ⟨_, rfl, iteF ⟨was, _, rfl, s3, ?_, w3, t3', ?_⟩⟩
            · rw [e3]
              unfold putEnd
              rw [if_pos c']
              exact f3
            · rw [e3]
              unfold putEnd
              rw [if_pos c']
              exact a3
          · rw [if_neg c]
            have c' : en ∉ (stt i).1 := by simpa using c
            have l3 := lenB i (by omega)
            have e4 : putEnd (stt i).1 (stt i).2 en = ((stt i).1 ++ [en], (stt i).2 ++ [en]) := if_neg c'
            have pk : putK (nmK (stt i).1) (bK en) (.bl true) = nmK ((stt i).1 ++ [en]) := by rw [nmK_put, if_neg c]
            have dp := DPut.t (v := .bl true) f3 (show H4 ea' = some (.tup ((bK en).map kV)) by rw [bK_V]; exact e2.mono s3) (by rw [nmK_len]; exact small_line (by omega))
            rw [pk] at dp
            have w4 : upd H4 fd (.dT (nmK ((stt i).1 ++ [en]))) wl = some (.lst (rV was)) := by rw [upd_ne (Ne.symm fw)]; exact w3
            refine ⟨_, rfl, iteT ⟨_, rfl, _, rfl, fd, _, rfl, dp, ?_⟩⟩
            refine ⟨_, rfl, .inl ⟨rfl, _, SqL.of w4⟩, _, rfl, wl, _, _, rfl, rfl, w4, ?_, ?_⟩
            · rw [rV_len, a3.len]
              exact small_line (by omega)
            refine ⟨was ++ [ea'], _, rfl, same_mut (same_mut s3 hfd) hwl0, ?_, ?_, ?_, ?_⟩
            · rw [upd_ne fw, upd_same, e3, e4]
            · rw [upd_same, rV_snoc]
            · rw [upd_ne tw, upd_ne tf]
              exact t3'
            · rw [e3, e4]
              exact a3.snoc e2
        · rintro σ H3 ⟨was, v, rfl, s3, f3, w3, t3', a3⟩
          have l1 := lenB 2 (Nat.le_refl _)
          have l2 := lenS 0 (by omega)
          have l2 : f.length ≤ (stt 2).1.length := l2
          refine ⟨_, ?_, (stt 2).1, (stt 2).2, was, _, v, rfl, s3, f3, w3, a3, ⟨W2, by omega⟩, rfl⟩
          rw [List.length_append, List.length_singleton]
          omega
end
end CB
end
section
set_option Elab.async false
set_option linter.all false
set_option maxRecDepth 100000
set_option maxHeartbeats 4000000
namespace CB
open PySem PySem.Spec PyProof.Rows L2
open LsText (Bytes)
open LsChain (Told Mark Set_ Book Places Point placeIn along placed rounds square farther worstBy)
def IsFr (H : Hp) (a : Addr) (q : Rat) : Prop := H a = some (.tup (fracV q))
theorem IsFr.mono {H H' : Hp} {a : Addr} {q : Rat} (s : Same H H') (h : IsFr H a q) : IsFr H' a q := s _ _ h
def SmQ (k : Nat) (q : Rat) : Prop := Sm k q.num ∧ Sm k (q.den : Int)
theorem smQ {k : Nat} {a b : Int} (hb : 0 < b) (ha : Sm k a) (hb' : Sm k b) : SmQ k ((a : Rat) / (b : Rat)) :=
  ⟨Sm.of_le (num_le _ hb rfl) ha, Sm.of_le (by have := den_le ((a : Rat) / (b : Rat)) hb rfl; omega) hb'⟩
def RetM (k : Nat) (ds : List Rat) (H : Hp) (Q : VK) : Prop := ∀ l H2 as, H l = none → Same H H2 → H2 l = some (.lst (rV as)) → All2 (IsFr H2) as ds → (∀ q ∈ ds, SmQ k q) → Q (.ref l) H2
def tieOf (S : Places) (p : LineT × LsChain.Entry) : Option Point := match placeIn S (mkName p.2.mark), placeIn S p.1.1, placeIn S p.1.2.1 with
  | some st, some x, some y => some (st.1 - (along x y p.1.2.2.1 (p.2.at_ : Int) (mkBes p.2.mark)).1, st.2 - (along x y p.1.2.2.1 (p.2.at_ : Int) (mkBes p.2.mark)).2)
  | _, _, _ => none
def canTell (S : Places) (p : LineT × LsChain.Entry) : Bool := (placeIn S (mkName p.2.mark)).isSome && standsB S p.1
theorem tie_told {S : Places} {p : LineT × LsChain.Entry} : (tieOf S p).isSome = canTell S p := by
  unfold tieOf canTell standsB
  cases placeIn S (mkName p.2.mark) <;> cases placeIn S p.1.1 <;> cases placeIn S p.1.2.1 <;> rfl
theorem tie_some {S : Places} {p : LineT × LsChain.Entry} {δ : Point} (h : tieOf S p = some δ) : ∃ st x y, placeIn S (mkName p.2.mark) = some st ∧ placeIn S p.1.1 = some x ∧ placeIn S p.1.2.1 = some y ∧
    δ = (st.1 - (along x y p.1.2.2.1 (p.2.at_ : Int) (mkBes p.2.mark)).1, st.2 - (along x y p.1.2.2.1 (p.2.at_ : Int) (mkBes p.2.mark)).2) := by
  unfold tieOf at h
  cases a : placeIn S (mkName p.2.mark) with
  | none => rw [a] at h; cases h
  | some st =>
    cases b : placeIn S p.1.1 with
    | none => rw [a, b] at h; cases h
    | some x =>
      cases c : placeIn S p.1.2.1 with
      | none => rw [a, b, c] at h; cases h
      | some y =>
        rw [a, b, c] at h
        exact ⟨st, x, y, rfl, rfl, rfl, (Option.some.inj h).symm⟩
def spCanTell (K : PySem.W.Frag) : Sp := sp3 fun x y z H Q _ => ∃ (d la ea : Addr) (L : List (List Key × V)) (S : Places) (p : LineT × LsChain.Entry), x = .ref d ∧ y = .ref la ∧ z = .ref ea ∧ H d = some (.dT L) ∧ All2 (plR H) L S ∧ IsLin K H la p.1 ∧ IsEnt K H ea p.2 ∧ Q (.bl (canTell S p)) H
def spMiss (K : PySem.W.Frag) : Sp := sp3 fun x y z H Q _ => ∃ (d la ea : Addr) (L : List (List Key × V)) (S : Places) (p : LineT × LsChain.Entry) (δ : Point), x = .ref d ∧ y = .ref la ∧ z = .ref ea ∧ H d = some (.dT L) ∧ All2 (plR H) L S ∧ IsLin K H la p.1 ∧ IsEnt K H ea p.2 ∧ WfP p ∧ tieOf S p = some δ ∧
  RetM 7000 [δ.1, δ.2, square δ] H Q
def RetW (W : Option (Nat × Rat)) (H : Hp) (Q : VK) : Prop := ∀ p H2 ma, H p = none → Same H H2 → H2 p = some (.tup [.int (wI W), .ref ma]) → IsFr H2 ma (wR W) → Q (.ref p) H2
def spWorstTie (K : PySem.W.Frag) : Sp := sp2 fun x y H Q _ => ∃ (d tl : Addr) (L : List (List Key × V)) (S : Places) (ps : List Addr) (xs : List (LineT × LsChain.Entry)), x = .ref d ∧ y = .ref tl ∧ H d = some (.dT L) ∧ All2 (plR H) L S ∧ H tl = some (.lst (rV ps)) ∧ All2 (IsPair K H) ps xs ∧ (∀ p ∈ xs, WfP p) ∧
  RetW (worstBy (fun (x y : Rat) => decide (y < x)) ((xs.map (tieOf S)).map fun p => p.map square)) H Q
def perLink (u : Option (Nat × Nat)) : Rat := match u with
  | some u => (u.1 : Rat) / (u.2 : Rat)
  | none => 1
def stretchOf (u : Option (Nat × Nat)) (S : Places) (l : LineT) : Option Rat := match placeIn S l.1, placeIn S l.2.1 with
  | some p, some q => some (square (q.1 - p.1, q.2 - p.2) / (((l.2.2.1 : Rat) * perLink u) * ((l.2.2.1 : Rat) * perLink u)))
  | _, _ => none
theorem stretch_some {u : Option (Nat × Nat)} {S : Places} {l : LineT} {r : Rat} (h : stretchOf u S l = some r) : ∃ p q, placeIn S l.1 = some p ∧ placeIn S l.2.1 = some q ∧ r = square (q.1 - p.1, q.2 - p.2) / (((l.2.2.1 : Rat) * perLink u) * ((l.2.2.1 : Rat) * perLink u)) := by
  unfold stretchOf at h
  cases b : placeIn S l.1 with
  | none => rw [b] at h; cases h
  | some x =>
    cases c : placeIn S l.2.1 with
    | none => rw [b, c] at h; cases h
    | some y =>
      rw [b, c] at h
      exact ⟨x, y, rfl, rfl, (Option.some.inj h).symm⟩
theorem stretch_told {u : Option (Nat × Nat)} {S : Places} {l : LineT} : (stretchOf u S l).isSome = standsB S l := by
  unfold stretchOf standsB
  cases placeIn S l.1 <;> cases placeIn S l.2.1 <;> rfl
def RetQ (k : Nat) (q : Rat) (H : Hp) (Q : VK) : Prop := ∀ p H2, H p = none → Same H H2 → IsFr H2 p q → SmQ k q → 0 ≤ q.num → Q (.ref p) H2
def spStretch (K : PySem.W.Frag) : Sp := sp3 fun x y z H Q _ => ∃ (a d la : Addr) (b : Book) (L : List (List Key × V)) (S : Places) (l : LineT) (r : Rat), x = .ref a ∧ y = .ref d ∧ z = .ref la ∧ IsBook K H a b ∧ H d = some (.dT L) ∧ All2 (plR H) L S ∧ IsLin K H la l ∧ (0 < l.2.2.1 ∧ l.2.2.1 ≤ 100000) ∧ stretchOf b.unit S l = some r ∧
  RetQ 5000 r H Q
def spFarther (K : PySem.W.Frag) : Sp := sp2 fun x y H Q _ => ∃ (a b : Addr) (p q : Rat), x = .ref a ∧ y = .ref b ∧ IsFr H a p ∧ IsFr H b q ∧ SmQ 5000 p ∧ SmQ 5000 q ∧ 0 ≤ p.num ∧ 0 ≤ q.num ∧ ∀ H2, Same H H2 → Q (.bl (farther p q)) H2
def spWorstLine (K : PySem.W.Frag) : Sp := sp3 fun x y z H Q _ => ∃ (a d tl : Addr) (b : Book) (L : List (List Key × V)) (S : Places) (ls : List Addr) (xs : List LineT), x = .ref a ∧ y = .ref d ∧ z = .ref tl ∧ IsBook K H a b ∧ H d = some (.dT L) ∧ All2 (plR H) L S ∧ H tl = some (.lst (rV ls)) ∧ All2 (IsLin K H) ls xs ∧ (∀ l ∈ xs, 0 < l.2.2.1 ∧ l.2.2.1 ≤ 100000) ∧
  RetW (worstBy farther (xs.map (stretchOf b.unit S))) H Q
section
variable {P : Program} {w : World} {K : PySem.W.Frag} {mg : Str → Option Value} {base : Heap}
theorem ok_can_be_told (T : Txt K mg) : Ok P w K mg base CX0 2 ("can_be_told", none) ["places", "line", "entry"] (spCanTell K) := by
  refine mk_ok T 31 rfl sc_can_be_told T.g_can_be_told (fun _ _ _ _ _ _ us hl => match us, hl with | [_, _, _], _ => rfl) len3 (fun cdv A outer s H vs Q E hr h => ?_)
  refine ⟨_, (pss_one (ps_ret (pe_and (pe_cmp (pc_din (hu_of hr) (pe_fld (pv 2) rfl) (pv 0)) rfl) (pe_one (pe_c (ok_stands T) hr (pa_cons (pv 0) (pa_cons (pv 1) pa_nil))))))), ?_⟩
  obtain ⟨x0, x1, x2, rfl, h⟩ := h
  obtain ⟨d, la, ea, L, S, p, rfl, rfl, rfl, hd, hS, hl, ⟨dy, na, e1, e2⟩, h⟩ := h
  refine ⟨_, rfl, ea, _, dy, _, _, rfl, e1, T.c_Entry, T.a_Entry_name, rfl, _, rfl, d, _, rfl, dget_name hd e2, _, rfl, ?_⟩
  rw [pl_some hS]
  unfold canTell at h
  cases z : (placeIn S (mkName p.2.mark)).isSome with
  | false =>
    rw [z] at h
    exact iteF h
  | true =>
    rw [z] at h
    exact iteT ⟨_, rfl, _, rfl, _, _, rfl, d, la, L, S, p.1, rfl, rfl, hd, hS, hl, h⟩
theorem ok_miss_of (T : Txt K mg) : Ok P w K mg base CX0 5 ("miss_of", none) ["places", "line", "entry"] (spMiss K) := by
  refine mk_ok T 32 rfl sc_miss_of T.g_miss_of (fun _ _ _ _ _ _ us hl => match us, hl with | [_, _, _], _ => rfl) len3 (fun cdv A outer s H vs Q E hr h => ?_)
  refine ⟨_, (pss_cons (ps_set (i := 3) sc_miss_of.nd rfl (Or.inl rfl) (pe_c (ok_met_place T) hr (pa_cons (pv 0) (pa_cons (pv 1) (pa_cons (pv 2) pa_nil)))))
      (pss_cons (ps_set (i := 4) sc_miss_of.nd rfl (Or.inl rfl) (pe_dget (hu_of hr) (pv 0) (pe_fld (pv 2) rfl) (fun _ _ => rfl)))
      (pss_cons (ps_asg (pe_c (ok_way T) hr (pa_cons (pv 3) (pa_cons (pv 4) pa_nil))) (pg_tup (by rfl) (pgs_cons (pg_name (i := 5) sc_miss_of.nd rfl (Or.inl rfl)) (pgs_cons (pg_name (i := 6) sc_miss_of.nd rfl (Or.inl rfl)) pgs_nil))))
      (pss_cons (ps_set (i := 7) sc_miss_of.nd rfl (Or.inl rfl) (pe_op op_mulW (pe_ix ix_tup (pv 3) pe_int (fun _ _ => rfl)) (pe_ix ix_tup (pv 4) pe_int (fun _ _ => rfl))))
      (pss_one (ps_ret (pe_lst (pa_cons (pe_c (ok_lowest T) hr (pa_cons (pv 5) (pa_cons (pv 7) pa_nil))) (pa_cons (pe_c (ok_lowest T) hr (pa_cons (pv 6) (pa_cons (pv 7) pa_nil))) (pa_cons (pe_c (ok_lowest T) hr (pa_cons (pe_op op_add (pe_op op_mulW (pv 5) (pv 5)) (pe_op op_mulW (pv 6) (pv 6))) (pa_cons (pe_op op_mulW (pv 7) (pv 7)) pa_nil))) pa_nil)))))))))), ?_⟩
  obtain ⟨x0, x1, x2, rfl, h⟩ := h
  obtain ⟨d, la, ea, L, S, p, δ, rfl, rfl, rfl, hd, hS, hl, he, wp, ht, h⟩ := h
  obtain ⟨st, x, y, h1, h2, h3, rfl⟩ := tie_some ht
  obtain ⟨dy, na, e1, e2⟩ := id he
  refine ⟨_, rfl, _, rfl, _, rfl, _, _, _, rfl, d, la, ea, L, S, p.1, p.2, x, y, H, rfl, rfl, rfl, hd, hS, hl, he, wp, h2, h3, Same.refl _, ?_⟩
  rintro _ H1 F1 g1 ⟨pa, rfl, pp⟩
  obtain ⟨e, n, b, k1, k2, k3, k4, k5, k6, k7⟩ := pp.mono g1.sub
  obtain ⟨sa, v1, se, sn, sb, j1, j2, j3, j4, j5, j6, j7⟩ := pl_at hS h1
  have dg := dget_name (g1.keep _ _ hd) (e2.mono g1.keep)
  rw [v1] at dg
  have j1' := g1.keep _ _ j1
  refine ⟨_, rfl, _, rfl, ea, _, dy, _, _, rfl, g1.keep _ _ e1, T.c_Entry, T.a_Entry_name, rfl, d, _, rfl, dg, ?_⟩
  have up : ∀ {i}, Sm 2300 i → Sm 4000 i := fun s => s.le (by decide)
  have up' : ∀ {i}, Sm 1100 i → Sm 4000 i := fun s => s.le (by decide)
  refine ⟨_, rfl, _, rfl, _, _, rfl, pa, sa, e, n, b, se, sn, sb, rfl, rfl, k1, j1', ⟨up k5, up k6, up k7, up' j5, up' j6, up' j7⟩, fun p1 H2 hp1 t1 e3 => ?_⟩
  refine ⟨p1, _, rfl, .of e3, rfl, _, _, rfl, _, _, rfl, rfl, ?_⟩
  refine ⟨_, rfl, _, _, _, _, rfl, rfl, .of (t1 _ _ k1), atI_nat (j := 2) rfl, _, rfl, _, _, _, _, rfl, rfl, .of (t1 _ _ j1'), atI_nat (j := 2) rfl, _, _, rfl, rfl, k7.cmul j7, ?_⟩
  have B0 : 0 < b * sb := Int.mul_pos k2 j2
  have sB : Sm 3400 (b * sb) := k7.mul j7
  have sx : Sm 3401 (se * b - e * sb) := ((j5.mul k7).le (by decide : 1100 + 2300 ≤ 3400)).sub ((k5.mul j7).le (by decide : 2300 + 1100 ≤ 3400))
  have sy : Sm 3401 (sn * b - n * sb) := ((j6.mul k7).le (by decide : 1100 + 2300 ≤ 3400)).sub ((k6.mul j7).le (by decide : 2300 + 1100 ≤ 3400))
  have BB : 0 < b * sb * (b * sb) := Int.mul_pos B0 B0
  have sBB : Sm 6800 (b * sb * (b * sb)) := sB.mul sB
  refine ⟨_, rfl, _, rfl, _, _, rfl, _, _, rfl, rfl, B0, sB.le (by decide), fun q1 H3 hq1 t2 f1 => ?_⟩
  refine ⟨_, rfl, _, rfl, _, _, rfl, _, _, rfl, rfl, B0, sB.le (by decide), fun q2 H4 hq2 t3 f2 => ?_⟩
  refine ⟨_, rfl, _, rfl, _, _, rfl, rfl, sx.cmul sx, _, rfl, _, rfl, _, _, rfl, rfl, sy.cmul sy, _, _, rfl, rfl, _, rfl, _, rfl, _, _, rfl, rfl, sB.cmul sB, _, _, rfl, _, _, rfl, rfl, BB, sBB.le (by decide), fun q3 H5 hq3 t4 f3 => ?_⟩
  refine ⟨(by show 3 ≤ sizeLine; decide), fun l hl => ?_⟩
  have dp := diff_pt (e := e) (n := n) (e' := se) (n' := sn) k2 j2
  rw [← k4, ← j4] at dp
  have sq := sq_pt (x := se * b - e * sb) (y := sn * b - n * sb) B0
  rw [dp.1, dp.2] at sq
  have s5 : Same H5 (upd H5 l (.lst (rV [q1, q2, q3]))) := same_upd hl
  refine h l _ [q1, q2, q3] ?_ ?_ upd_same (.cons ?_ (.cons ?_ (.cons ?_ .nil))) ?_
  · exact (((g1.keep.trans t1).trans t2).trans (t3.trans t4)).free hl
  · exact (((g1.keep.trans t1).trans t2).trans (t3.trans t4)).trans s5
  · rw [← dp.1]
    exact s5 _ _ (t4 _ _ (t3 _ _ f1))
  · rw [← dp.2]
    exact s5 _ _ (t4 _ _ f2)
  · rw [← sq]
    exact s5 _ _ f3
  · intro q hq
    simp only [List.mem_cons, List.not_mem_nil, or_false] at hq
    rcases hq with rfl | rfl | rfl
    · rw [← dp.1]
      exact smQ B0 (sx.le (by decide)) (sB.le (by decide))
    · rw [← dp.2]
      exact smQ B0 (sy.le (by decide)) (sB.le (by decide))
    · rw [← sq]
      exact smQ BB (((sx.mul sx).add (sy.mul sy)).le (by decide)) (sBB.le (by decide))
end
end CB
end
section
set_option Elab.async false
set_option linter.all false
set_option maxRecDepth 100000
set_option maxHeartbeats 4000000
namespace CB
open PySem PySem.Spec PyProof.Rows L2
open LsText (Bytes)
open LsChain (Told Mark Set_ Book Places Point placeIn along placed rounds square farther worstBy)
theorem fr_zero : fracV 0 = [V.int 0, V.int 1] := rfl
theorem SmQ.le {j k : Nat} {q : Rat} (h : SmQ j q) (l : j ≤ k) : SmQ k q := ⟨h.1.le l, h.2.le l⟩
theorem smQ_zero : SmQ 1 0 := ⟨by show (0 : Int).natAbs < 2 ^ 1; decide, by show (1 : Int).natAbs < 2 ^ 1; decide⟩
theorem smQ_up {k : Nat} {q : Rat} (h : SmQ k q) (n : 0 < q.num) : SmQ k (upOf q) := by
  unfold upOf
  split
  · obtain ⟨e1, e2⟩ := turn_num q n
    refine ⟨?_, ?_⟩
    · rw [e1]
      exact h.2
    · rw [e2]
      exact h.1
  · exact h
theorem num0 (q : Rat) : decide (V.int q.num = V.int 0) = decide (q = 0) := decide_eq_decide.mpr ⟨fun z => Rat.num_eq_zero.mp (V.int.inj z), fun z => by rw [z]; rfl⟩
theorem farther_up {p q : Rat} (hp : p ≠ 0) (hq : q ≠ 0) : farther p q = decide (upOf q < upOf p) := by
  unfold farther upOf
  rw [if_neg hq, if_neg hp]
section
variable {P : Program} {w : World} {K : PySem.W.Frag} {mg : Str → Option Value} {base : Heap}
theorem ok_is_farther_off (T : Txt K mg) : Ok P w K mg base CX0 2 ("is_farther_off", none) ["one", "other"] (spFarther K) := by
  refine mk_ok T 35 rfl sc_is_farther_off T.g_is_farther_off (fun _ _ _ _ _ _ us hl => match us, hl with | [_, _], _ => rfl) len2 (fun cdv A outer s H vs Q E hr h => ?_)
  refine ⟨_, (pss_cons (ps_if (pt_cmpR op_eq (pe_ix ix_tup (pv 1) pe_int (fun _ _ => rfl)) pe_int (nomark _)) (pss_one (ps_ret pe_bl)) pss_nil)
      (pss_cons (ps_if (pt_cmpR op_eq (pe_ix ix_tup (pv 0) pe_int (fun _ _ => rfl)) pe_int (nomark _)) (pss_one (ps_ret pe_bl)) pss_nil)
      (pss_one (ps_ret (pe_c (ok_is_less T) hr (pa_cons (pe_c (ok_turned_up T) hr (pa_cons (pv 1) pa_nil)) (pa_cons (pe_c (ok_turned_up T) hr (pa_cons (pv 0) pa_nil)) pa_nil))))))), ?_⟩
  obtain ⟨x0, x1, rfl, h⟩ := h
  obtain ⟨a, b, p, q, rfl, rfl, ha, hb, sp, sq, np, nq, h⟩ := h
  refine ⟨_, rfl, _, _, _, _, rfl, rfl, .of hb, atI0, rfl, _, rfl, ?_⟩
  rw [num0]
  by_cases zq : q = 0
  · rw [decide_eq_true zq]
    have := h H (Same.refl _)
    rw [show farther p q = false from if_pos zq] at this
    exact iteT this
  · rw [decide_eq_false zq]
    refine iteF ⟨_, rfl, _, _, _, _, rfl, rfl, .of ha, atI0, rfl, _, rfl, ?_⟩
    rw [num0]
    by_cases zp : p = 0
    · rw [decide_eq_true zp]
      have := h H (Same.refl _)
      rw [show farther p q = true from (if_neg zq).trans (if_pos zp)] at this
      exact iteT this
    · rw [decide_eq_false zp]
      have hq : 0 < q.num := by
        have : q.num ≠ 0 := fun z => zq (Rat.num_eq_zero.mp z)
        omega
      have hp : 0 < p.num := by
        have : p.num ≠ 0 := fun z => zp (Rat.num_eq_zero.mp z)
        omega
      refine iteF ⟨_, rfl, _, rfl, b, q, rfl, .of hb, hq, fun p1 H1 hp1 t1 e1 => ⟨_, rfl, _, rfl, a, p, rfl, .of (t1 _ _ ha), hp, fun p2 H2 hp2 t2 e2 => ?_⟩⟩
      obtain ⟨u1, u2⟩ := smQ_up sq hq
      obtain ⟨u3, u4⟩ := smQ_up sp hp
      have := h H2 (t1.trans t2)
      rw [farther_up zp zq] at this
      exact ⟨_, _, rfl, p1, p2, upOf q, upOf p, rfl, rfl, .of (t2 _ _ e1), .of e2, ⟨u1.le (by decide), u2.le (by decide), u3.le (by decide), u4.le (by decide)⟩, this⟩
theorem ok_worst_tie (T : Txt K mg) : Ok P w K mg base CX0 6 ("worst_tie", none) ["places", "ties"] (spWorstTie K) := by
  refine mk_ok T 33 rfl sc_worst_tie T.g_worst_tie (fun _ _ _ _ _ _ us hl => match us, hl with | [_, _], _ => rfl) len2 (fun cdv A outer s H vs Q E hr h => ?_)
  refine ⟨_, (pss_cons (ps_set (i := 2) sc_worst_tie.nd rfl (Or.inl rfl) (pe_un un_neg pe_int))
      (pss_cons (ps_set (i := 3) sc_worst_tie.nd rfl (Or.inl rfl) (pe_tup (pa_cons pe_int (pa_cons pe_int pa_nil))))
      (pss_cons (ps_for PassesOwn.never rfl (pi_enum (by rfl) T.n_enumerate (pa_cons (pv 1) pa_nil)) (pg_tup (by rfl) (pgs_cons (pg_name (i := 4) sc_worst_tie.nd rfl (Or.inl rfl)) (pgs_cons (pg_tup (by rfl) (pgs_cons (pg_name (i := 5) sc_worst_tie.nd rfl (Or.inl rfl)) (pgs_cons (pg_name (i := 6) sc_worst_tie.nd rfl (Or.inl rfl)) pgs_nil))) pgs_nil)))
      (pss_one (ps_if (pt_val (pe_c (ok_can_be_told T) hr (pa_cons (pv 0) (pa_cons (pv 5) (pa_cons (pv 6) pa_nil))))) (pss_cons (ps_set (i := 7) sc_worst_tie.nd rfl (Or.inl rfl) (pe_ix ix_list (pe_c (ok_miss_of T) hr (pa_cons (pv 0) (pa_cons (pv 5) (pa_cons (pv 6) pa_nil)))) pe_int (fun _ _ => rfl)))
      (pss_one (ps_if (PW.pt (pw_or (pt_cmpR op_lt (pv 2) pe_int (nomark _)) (pw_or1 (pt_val (pe_c (ok_is_less T) hr (pa_cons (pv 3) (pa_cons (pv 7) pa_nil))))))) (pss_cons (ps_set (i := 2) sc_worst_tie.nd rfl (Or.inl rfl) (pv 4))
      (pss_one (ps_set (i := 3) sc_worst_tie.nd rfl (Or.inl rfl) (pv 7)))) pss_nil))) pss_nil)))
      (pss_one (ps_ret (pe_tup (pa_cons (pv 2) (pa_cons (pv 3) pa_nil)))))))), ?_⟩
  obtain ⟨x0, x1, rfl, h⟩ := h
  obtain ⟨d, tl, L, S, ps, xs, rfl, rfl, hd, hS, ht, hps, wps, h⟩ := h
  refine ⟨_, rfl, (by show 2 ≤ sizeLine; decide), fun m0 hm0 => ?_⟩
  let l : List (Option Rat) := (xs.map (tieOf S)).map fun p => p.map square
  let far : Rat → Rat → Bool := fun x y => decide (y < x)
  let Pv : Nat → L2.St → Hp → Prop := fun i σ H' => ∃ ma x4 x5 x6 x7, σ = [some (.ref d), some (.ref tl), some (.int (wI (wAt far l i))), some (.ref ma), x4, x5, x6, x7] ∧ Same H H' ∧ IsFr H' ma (wR (wAt far l i)) ∧ SmQ 7000 (wR (wAt far l i))
  have h0 : Pv 0 [some (.ref d), some (.ref tl), some (.int (-1)), some (.ref m0), none, none, none, none] (upd H m0 (.tup [.int 0, .int 1])) := ⟨m0, _, _, _, _, rfl, same_upd hm0, upd_same, smQ_zero.le (by decide)⟩
  refine ⟨_, rfl, tl, rV ps, rfl, .of ((same_upd hm0) _ _ ht), for_it (walk_enum (K := K) (a := tl) (xs := rV ps)) Pv h0 ?_ ?_ ?_⟩
  · rintro i σ H' _ ⟨ma, x4, x5, x6, x7, rfl, sH, hm, sm⟩
    exact .of (sH _ _ ht)
  · rintro i x σ H1 H2 hi ⟨ma, x4, x5, x6, x7, rfl, sH, hm, sm⟩ ⟨t, v1, v2, rfl, ht0, rfl, e1, e2⟩
    cases Option.some.inj e1
    obtain ⟨q, hq, rfl⟩ := rV_get e2
    obtain ⟨pr, hpr, hP⟩ := hps.get hq
    have sH2 : Same H (upd H1 t (.tup [.int (i : Int), .ref q])) := same_upd2 sH ht0
    obtain ⟨la, ea, q1, q2, q3⟩ := hP.mono sH2
    have hl : l[i]? = some ((tieOf S pr).map square) := by
      show ((xs.map (tieOf S)).map fun p => p.map square)[i]? = _
      rw [List.getElem?_map, List.getElem?_map, hpr]
      rfl
    have stp := wAt_succ (far := far) hl
    have fin : ∀ {W' : Option (Nat × Rat)} {ma' : Addr} {H'' : Hp} {x4 x5 x6 x7 : Option V}, wAt far l (i + 1) = W' → Same H H'' → IsFr H'' ma' (wR W') → SmQ 7000 (wR W') → Pv (i + 1) [some (.ref d), some (.ref tl), some (.int (wI W')), some (.ref ma'), x4, x5, x6, x7] H'' := fun e a b c => by
      subst e
      exact ⟨_, _, _, _, _, rfl, a, b, c⟩
    have hm2 : IsFr (upd H1 t (.tup [.int (i : Int), .ref q])) ma (wR (wAt far l i)) := (same_upd ht0) _ _ hm
    have hS2 := hS.imp (plR.mono sH2)
    refine ⟨t, _, rfl, .of upd_same, rfl, _, _, rfl, _, _, rfl, q, _, rfl, .of q1, rfl, _, _, rfl, _, _, rfl, rfl, rfl, ?_⟩
    refine ⟨_, rfl, _, rfl, _, rfl, _, _, _, rfl, d, la, ea, L, S, pr, rfl, rfl, rfl, sH2 _ _ hd, hS2, q2, q3, _, rfl, ?_⟩
    cases c : tieOf S pr with
    | none =>
      rw [← tie_told, c]
      rw [c] at stp
      have stp : wAt far l (i + 1) = wAt far l i := stp.trans wStep_none
      exact iteF (fin stp sH2 hm2 sm)
    | some δ =>
      rw [← tie_told, c]
      rw [c] at stp
      have stp : wAt far l (i + 1) = _ := stp.trans wStep_some
      refine iteT ⟨_, rfl, _, rfl, _, rfl, _, _, _, rfl, d, la, ea, L, S, pr, δ, rfl, rfl, rfl, sH2 _ _ hd, hS2, q2, q3, wps _ (List.mem_of_getElem? hpr), c, fun ml H3 as hml s3 e3 hA hQ => ?_⟩
      obtain ⟨sa, hsa, hsq⟩ := hA.get' (i := 2) (b := square δ) rfl
      have hx : (rV as)[2]? = some (.ref sa) := rV_at hsa
      have sH3 := sH2.trans s3
      have sqs : SmQ 7000 (square δ) := hQ _ (by simp)
      have hm3 := s3 _ _ hm2
      refine ⟨_, _, _, _, rfl, rfl, .of e3, atI_nat (j := 2) hx, _, rfl, _, _, rfl, rfl, _, rfl, ?_⟩
      cases c2 : decide (wI (wAt far l i) < 0) with
      | true =>
        rw [c2, Bool.true_or, if_pos rfl] at stp
        exact iteT (iteT ⟨_, rfl, _, rfl, fin stp sH3 hsq sqs⟩)
      | false =>
        rw [c2, Bool.false_or] at stp
        refine iteF ⟨_, rfl, _, rfl, _, _, rfl, ma, sa, wR (wAt far l i), square δ, rfl, rfl, .of hm3, .of hsq, ⟨sm.1.le (by decide), sm.2.le (by decide), sqs.1.le (by decide), sqs.2.le (by decide)⟩, _, rfl, ?_⟩
        by_cases c3 : wR (wAt far l i) < square δ
        · rw [decide_eq_true c3]
          rw [if_pos (show far (square δ) (wR (wAt far l i)) = true from decide_eq_true c3)] at stp
          exact iteT ⟨_, rfl, _, rfl, fin stp sH3 hsq sqs⟩
        · rw [decide_eq_false c3]
          rw [if_neg (by show ¬ decide _ = true; rw [decide_eq_false c3]; decide)] at stp
          exact iteF (fin stp sH3 hm3 sm)
  · rintro σ H' ⟨ma, x4, x5, x6, x7, rfl, sH, hm, sm⟩
    have e : wAt far l (rV ps).length = worstBy far l := by
      rw [show (rV ps).length = l.length by
        show _ = ((xs.map (tieOf S)).map fun p => p.map square).length
        rw [rV_len, hps.len, List.length_map, List.length_map]]
      exact wAt_end far l
    rw [e] at hm
    refine ⟨_, rfl, _, rfl, (by show 2 ≤ sizeLine; decide), fun p hp => ?_⟩
    refine h p _ ma (sH.free hp) (same_upd2 sH hp) ?_ ((same_upd hp) _ _ hm)
    rw [e]
    exact upd_same
end
end CB
end
section
set_option Elab.async false
set_option linter.all false
set_option maxRecDepth 100000
set_option maxHeartbeats 4000000
namespace CB
open PySem PySem.Spec PyProof.Rows L2
open LsText (Bytes)
open LsChain (Told Mark Set_ Book Places Point placeIn along placed rounds square farther worstBy)
/-- metres and links as the program has them: 1 and 1 where none are told -/
def uM (u : Option (Nat × Nat)) : Nat := match u with
  | some u => u.1
  | none => 1
def uL (u : Option (Nat × Nat)) : Nat := match u with
  | some u => u.2
  | none => 1
theorem sq_nn (x : Int) : 0 ≤ x * x := by
  rcases Int.le_total 0 x with h | h
  · exact Int.mul_nonneg h h
  · have := Int.mul_nonneg (Int.neg_nonneg_of_nonpos h) (Int.neg_nonneg_of_nonpos h)
    rwa [Int.neg_mul_neg] at this
theorem perLink_is (u : Option (Nat × Nat)) : perLink u = (uM u : Rat) / (uL u : Rat) := by
  cases u with
  | none =>
    show (1 : Rat) = ((1 : Nat) : Rat) / ((1 : Nat) : Rat)
    push_cast
    grind
  | some u => rfl
section
variable {P : Program} {w : World} {K : PySem.W.Frag} {mg : Str → Option Value} {base : Heap}
theorem ok_stretch_of (T : Txt K mg) : Ok P w K mg base CX0 3 ("stretch_of", none) ["book", "places", "line"] (spStretch K) := by
  refine mk_ok T 34 rfl sc_stretch_of T.g_stretch_of (fun _ _ _ _ _ _ us hl => match us, hl with | [_, _, _], _ => rfl) len3 (fun cdv A outer s H vs Q E hr h => ?_)
  refine ⟨_, (pss_cons (ps_asg (pe_ifExp (pt_val (pe_c (ok_has_unit T) hr (pa_cons (pv 0) pa_nil))) (pe_tup (pa_cons (pe_fld (pv 0) rfl) (pa_cons (pe_fld (pv 0) rfl) pa_nil))) (pe_tup (pa_cons pe_int (pa_cons pe_int pa_nil)))) (pg_tup (by rfl) (pgs_cons (pg_name (i := 3) sc_stretch_of.nd rfl (Or.inl rfl)) (pgs_cons (pg_name (i := 4) sc_stretch_of.nd rfl (Or.inl rfl)) pgs_nil))))
      (pss_cons (ps_set (i := 5) sc_stretch_of.nd rfl (Or.inl rfl) (pe_dget (hu_of hr) (pv 1) (pe_fld (pv 2) rfl) (fun _ _ => rfl)))
      (pss_cons (ps_set (i := 6) sc_stretch_of.nd rfl (Or.inl rfl) (pe_dget (hu_of hr) (pv 1) (pe_fld (pv 2) rfl) (fun _ _ => rfl)))
      (pss_cons (ps_asg (pe_c (ok_way T) hr (pa_cons (pv 5) (pa_cons (pv 6) pa_nil))) (pg_tup (by rfl) (pgs_cons (pg_name (i := 7) sc_stretch_of.nd rfl (Or.inl rfl)) (pgs_cons (pg_name (i := 8) sc_stretch_of.nd rfl (Or.inl rfl)) pgs_nil))))
      (pss_cons (ps_set (i := 9) sc_stretch_of.nd rfl (Or.inl rfl) (pe_op op_mulW (pe_op op_mulW (pe_op op_mulW (pe_ix ix_tup (pv 5) pe_int (fun _ _ => rfl)) (pe_ix ix_tup (pv 6) pe_int (fun _ _ => rfl))) (pe_fld (pv 2) rfl)) (pv 3)))
      (pss_one (ps_ret (pe_c (ok_lowest T) hr (pa_cons (pe_op op_mulW (pe_op op_mulW (pe_op op_add (pe_op op_mulW (pv 7) (pv 7)) (pe_op op_mulW (pv 8) (pv 8))) (pv 4)) (pv 4)) (pa_cons (pe_op op_mulW (pv 9) (pv 9)) pa_nil)))))))))), ?_⟩
  obtain ⟨x0, x1, x2, rfl, h⟩ := h
  obtain ⟨a, d, la, b, L, S, l, r, rfl, rfl, rfl, hb, hd, hS, hl, ⟨w1, w2⟩, hr', h⟩ := h
  obtain ⟨p, q, hp, hq, rfl⟩ := stretch_some hr'
  obtain ⟨wf, bx, bsa, sas, b1, b2, b3⟩ := id hb
  obtain ⟨dx, xa, ya, ea, eas, k1, k2, k3, k4, k5⟩ := id hl
  obtain ⟨pa, v1, e, n, c, i1, i2, i3, i4, i5, i6, i7⟩ := pl_at hS hp
  obtain ⟨qa, v2, e', n', c', j1, j2, j3, j4, j5, j6, j7⟩ := pl_at hS hq
  have hu : (0 < uM b.unit ∧ uM b.unit ≤ 1000000) ∧ 0 < uL b.unit ∧ uL b.unit ≤ 1000000 := by
    cases z : b.unit with
    | none => exact ⟨⟨by decide, by decide⟩, by decide, by decide⟩
    | some u =>
      have := wf.unit u z
      exact ⟨⟨this.1, this.2.1⟩, this.2.2⟩
  rw [perLink_is] at h
  have mu : ∀ {i}, Sm 1100 i → Sm 4000 i := fun s => s.le (by decide)
  refine ⟨_, rfl, _, rfl, a, b, rfl, hb, _, rfl, ?_⟩
  have d1 := dget_name hd k2
  rw [v1] at d1
  have d2 := dget_name hd k3
  rw [v2] at d2
  have dg1 : ∀ {H3 : Hp}, Same H H3 → DGet H3 d (.ref xa) (some (.ref pa)) := fun s => by
    have := dget_name (s _ _ hd) (k2.mono s)
    rw [v1] at this
    exact this
  have dg2 : ∀ {H3 : Hp}, Same H H3 → DGet H3 d (.ref ya) (some (.ref qa)) := fun s => by
    have := dget_name (s _ _ hd) (k3.mono s)
    rw [v2] at this
    exact this
  have su : Sm 20 (uM b.unit : Int) := sm_nat (by omega)
  have sv : Sm 20 (uL b.unit : Int) := sm_nat (by omega)
  have sm : Sm 17 (l.2.2.1 : Int) := sm_nat (by omega)
  have sx : Sm 2201 (e' * c - e * c') := (j5.mul i7).sub (i5.mul j7)
  have sy : Sm 2201 (n' * c - n * c') := (j6.mul i7).sub (i6.mul j7)
  have sxx := sx.mul sx
  have syy := sy.mul sy
  have s1 : Sm 2200 (c * c') := i7.mul j7
  have s2 : Sm 2217 (c * c' * (l.2.2.1 : Int)) := s1.mul sm
  have s3 : Sm 2237 (c * c' * (l.2.2.1 : Int) * (uM b.unit : Int)) := s2.mul su
  have s4 : Sm 4403 ((e' * c - e * c') * (e' * c - e * c') + (n' * c - n * c') * (n' * c - n * c')) := sxx.add syy
  have s5 : Sm 4423 (((e' * c - e * c') * (e' * c - e * c') + (n' * c - n * c') * (n' * c - n * c')) * (uL b.unit : Int)) := s4.mul sv
  have s6 := s5.mul sv
  have s7 : Sm 4474 (c * c' * (l.2.2.1 : Int) * (uM b.unit : Int) * (c * c' * (l.2.2.1 : Int) * (uM b.unit : Int))) := s3.mul s3
  have B0 : 0 < c * c' := Int.mul_pos i2 j2
  have BB : 0 < c * c' * (l.2.2.1 : Int) * (uM b.unit : Int) * (c * c' * (l.2.2.1 : Int) * (uM b.unit : Int)) := by
    have : 0 < c * c' * (l.2.2.1 : Int) * (uM b.unit : Int) := Int.mul_pos (Int.mul_pos B0 (by omega)) (by omega)
    exact Int.mul_pos this this
  have eq := stretch_pt (x := e' * c - e * c') (y := n' * c - n * c') B0 w1 hu.1.1 hu.2.1
  have dp := diff_pt (e := e) (n := n) (e' := e') (n' := n') i2 j2
  rw [dp.1, dp.2, ← i4, ← j4] at eq
  rw [← eq] at h
  have nn : 0 ≤ ((e' * c - e * c') * (e' * c - e * c') + (n' * c - n * c') * (n' * c - n * c')) * (uL b.unit : Int) * (uL b.unit : Int) :=
    Int.mul_nonneg (Int.mul_nonneg (Int.add_nonneg (sq_nn _) (sq_nn _)) (by omega)) (by omega)
  cases z : b.unit with
  | none =>
    rw [show hasUnit b = false by unfold hasUnit; rw [z]; rfl]
    refine iteF ⟨(by show 2 ≤ sizeLine; decide), fun t0 ht0 => ?_⟩
    have e0 : upd H t0 (.tup [.int 1, .int 1]) t0 = some (.tup [.int (uM b.unit : Int), .int (uL b.unit : Int)]) := by
      rw [upd_same, z]
      rfl
    have t1 : Same H (upd H t0 (.tup [.int 1, .int 1])) := same_upd ht0
    generalize upd H t0 (.tup [.int 1, .int 1]) = H1 at e0 t1
    refine ⟨t0, _, rfl, .of e0, rfl, _, _, rfl, _, _, rfl, rfl, ?_⟩
    refine ⟨_, rfl, _, rfl, la, _, dx, _, _, rfl, t1 _ _ k1, T.c_Line, T.a_Line_first, rfl, d, _, rfl, dg1 t1, ?_⟩
    refine ⟨_, rfl, _, rfl, la, _, dx, _, _, rfl, t1 _ _ k1, T.c_Line, T.a_Line_second, rfl, d, _, rfl, dg2 t1, ?_⟩
    refine ⟨_, rfl, _, rfl, _, _, rfl, pa, qa, e, n, c, e', n', c', rfl, rfl, t1 _ _ i1, t1 _ _ j1, ⟨mu i5, mu i6, mu i7, mu j5, mu j6, mu j7⟩, fun p1 H2 hp1 t2 e3 => ?_⟩
    refine ⟨p1, _, rfl, .of e3, rfl, _, _, rfl, _, _, rfl, rfl, ?_⟩
    refine ⟨_, rfl, _, _, _, _, rfl, rfl, .of (t2 _ _ (t1 _ _ i1)), atI_nat (j := 2) rfl, _, rfl, _, _, _, _, rfl, rfl, .of (t2 _ _ (t1 _ _ j1)), atI_nat (j := 2) rfl, _, _, rfl, rfl, i7.cmul j7, ?_⟩
    refine ⟨_, rfl, la, _, dx, _, _, rfl, t2 _ _ (t1 _ _ k1), T.c_Line, T.a_Line_measure, rfl, _, _, rfl, rfl, s1.cmul sm, _, rfl, _, _, rfl, rfl, s2.cmul su, ?_⟩
    refine ⟨_, rfl, _, rfl, _, _, rfl, rfl, sx.cmul sx, _, rfl, _, rfl, _, _, rfl, rfl, sy.cmul sy, _, _, rfl, rfl, _, rfl, _, _, rfl, rfl, s4.cmul sv, _, rfl, _, _, rfl, rfl, s5.cmul sv, ?_⟩
    refine ⟨_, rfl, _, rfl, _, _, rfl, rfl, s3.cmul s3, _, _, rfl, _, _, rfl, rfl, BB, s7.le (by decide), fun p2 H3 hp2 t3 e4 => ?_⟩
    exact h p2 H3 ((t1.trans t2).free hp2) ((t1.trans t2).trans t3) e4 (smQ BB (s6.le (by decide)) (s7.le (by decide))) (frac_nonneg nn BB)
  | some u =>
    rw [show hasUnit b = true by unfold hasUnit; rw [z]; rfl]
    refine iteT ⟨_, rfl, a, _, bx, _, _, rfl, b1, T.c_Book, T.a_Book_metres, rfl, _, rfl, a, _, bx, _, _, rfl, b1, T.c_Book, T.a_Book_links, rfl, (by show 2 ≤ sizeLine; decide), fun t0 ht0 => ?_⟩
    have e0 : upd H t0 (.tup [.int (unM b.unit : Int), .int (unL b.unit : Int)]) t0 = some (.tup [.int (uM b.unit : Int), .int (uL b.unit : Int)]) := by
      rw [upd_same, z]
      rfl
    have t1 : Same H (upd H t0 (.tup [.int (unM b.unit : Int), .int (unL b.unit : Int)])) := same_upd ht0
    generalize upd H t0 (.tup [.int (unM b.unit : Int), .int (unL b.unit : Int)]) = H1 at e0 t1
    refine ⟨t0, _, rfl, .of e0, rfl, _, _, rfl, _, _, rfl, rfl, ?_⟩
    refine ⟨_, rfl, _, rfl, la, _, dx, _, _, rfl, t1 _ _ k1, T.c_Line, T.a_Line_first, rfl, d, _, rfl, dg1 t1, ?_⟩
    refine ⟨_, rfl, _, rfl, la, _, dx, _, _, rfl, t1 _ _ k1, T.c_Line, T.a_Line_second, rfl, d, _, rfl, dg2 t1, ?_⟩
    refine ⟨_, rfl, _, rfl, _, _, rfl, pa, qa, e, n, c, e', n', c', rfl, rfl, t1 _ _ i1, t1 _ _ j1, ⟨mu i5, mu i6, mu i7, mu j5, mu j6, mu j7⟩, fun p1 H2 hp1 t2 e3 => ?_⟩
    refine ⟨p1, _, rfl, .of e3, rfl, _, _, rfl, _, _, rfl, rfl, ?_⟩
    refine ⟨_, rfl, _, _, _, _, rfl, rfl, .of (t2 _ _ (t1 _ _ i1)), atI_nat (j := 2) rfl, _, rfl, _, _, _, _, rfl, rfl, .of (t2 _ _ (t1 _ _ j1)), atI_nat (j := 2) rfl, _, _, rfl, rfl, i7.cmul j7, ?_⟩
    refine ⟨_, rfl, la, _, dx, _, _, rfl, t2 _ _ (t1 _ _ k1), T.c_Line, T.a_Line_measure, rfl, _, _, rfl, rfl, s1.cmul sm, _, rfl, _, _, rfl, rfl, s2.cmul su, ?_⟩
    refine ⟨_, rfl, _, rfl, _, _, rfl, rfl, sx.cmul sx, _, rfl, _, rfl, _, _, rfl, rfl, sy.cmul sy, _, _, rfl, rfl, _, rfl, _, _, rfl, rfl, s4.cmul sv, _, rfl, _, _, rfl, rfl, s5.cmul sv, ?_⟩
    refine ⟨_, rfl, _, rfl, _, _, rfl, rfl, s3.cmul s3, _, _, rfl, _, _, rfl, rfl, BB, s7.le (by decide), fun p2 H3 hp2 t3 e4 => ?_⟩
    exact h p2 H3 ((t1.trans t2).free hp2) ((t1.trans t2).trans t3) e4 (smQ BB (s6.le (by decide)) (s7.le (by decide))) (frac_nonneg nn BB)
theorem ok_worst_line (T : Txt K mg) : Ok P w K mg base CX0 4 ("worst_line", none) ["book", "places", "lines"] (spWorstLine K) := by
  refine mk_ok T 36 rfl sc_worst_line T.g_worst_line (fun _ _ _ _ _ _ us hl => match us, hl with | [_, _, _], _ => rfl) len3 (fun cdv A outer s H vs Q E hr h => ?_)
  refine ⟨_, (pss_cons (ps_set (i := 3) sc_worst_line.nd rfl (Or.inl rfl) (pe_un un_neg pe_int))
      (pss_cons (ps_set (i := 4) sc_worst_line.nd rfl (Or.inl rfl) (pe_tup (pa_cons pe_int (pa_cons pe_int pa_nil))))
      (pss_cons (ps_for PassesOwn.never rfl (pi_enum (by rfl) T.n_enumerate (pa_cons (pv 2) pa_nil)) (pg_tup (by rfl) (pgs_cons (pg_name (i := 5) sc_worst_line.nd rfl (Or.inl rfl)) (pgs_cons (pg_name (i := 6) sc_worst_line.nd rfl (Or.inl rfl)) pgs_nil)))
      (pss_one (ps_if (pt_val (pe_c (ok_stands T) hr (pa_cons (pv 1) (pa_cons (pv 6) pa_nil)))) (pss_cons (ps_set (i := 7) sc_worst_line.nd rfl (Or.inl rfl) (pe_c (ok_stretch_of T) hr (pa_cons (pv 0) (pa_cons (pv 1) (pa_cons (pv 6) pa_nil)))))
      (pss_one (ps_if (PW.pt (pw_or (pt_cmpR op_lt (pv 3) pe_int (nomark _)) (pw_or1 (pt_val (pe_c (ok_is_farther_off T) hr (pa_cons (pv 7) (pa_cons (pv 4) pa_nil))))))) (pss_cons (ps_set (i := 3) sc_worst_line.nd rfl (Or.inl rfl) (pv 5))
      (pss_one (ps_set (i := 4) sc_worst_line.nd rfl (Or.inl rfl) (pv 7)))) pss_nil))) pss_nil)))
      (pss_one (ps_ret (pe_tup (pa_cons (pv 3) (pa_cons (pv 4) pa_nil)))))))), ?_⟩
  obtain ⟨x0, x1, x2, rfl, h⟩ := h
  obtain ⟨a, d, tl, b, L, S, ps, xs, rfl, rfl, rfl, hb, hd, hS, ht, hps, wps, h⟩ := h
  refine ⟨_, rfl, (by show 2 ≤ sizeLine; decide), fun m0 hm0 => ?_⟩
  let l : List (Option Rat) := xs.map (stretchOf b.unit S)
  let Pv : Nat → L2.St → Hp → Prop := fun i σ H' => ∃ ma x4 x5 x6, σ = [some (.ref a), some (.ref d), some (.ref tl), some (.int (wI (wAt farther l i))), some (.ref ma), x4, x5, x6] ∧ Same H H' ∧ IsFr H' ma (wR (wAt farther l i)) ∧ SmQ 5000 (wR (wAt farther l i)) ∧ 0 ≤ (wR (wAt farther l i)).num
  have h0 : Pv 0 [some (.ref a), some (.ref d), some (.ref tl), some (.int (-1)), some (.ref m0), none, none, none] (upd H m0 (.tup [.int 0, .int 1])) := ⟨m0, _, _, _, rfl, same_upd hm0, upd_same, smQ_zero.le (by decide), Int.le_refl _⟩
  refine ⟨_, rfl, tl, rV ps, rfl, .of ((same_upd hm0) _ _ ht), for_it (walk_enum (K := K) (a := tl) (xs := rV ps)) Pv h0 ?_ ?_ ?_⟩
  · rintro i σ H' _ ⟨ma, x4, x5, x6, rfl, sH, hm, sm⟩
    exact .of (sH _ _ ht)
  · rintro i x σ H1 H2 hi ⟨ma, x4, x5, x6, rfl, sH, hm, sm, nm⟩ ⟨t, v1, v2, rfl, ht0, rfl, e1, e2⟩
    cases Option.some.inj e1
    obtain ⟨q, hq, rfl⟩ := rV_get e2
    obtain ⟨pr, hpr, hP⟩ := hps.get hq
    have sH2 : Same H (upd H1 t (.tup [.int (i : Int), .ref q])) := same_upd2 sH ht0
    have q2 := hP.mono sH2
    have hl : l[i]? = some (stretchOf b.unit S pr) := by
      show (xs.map (stretchOf b.unit S))[i]? = _
      rw [List.getElem?_map, hpr]
      rfl
    have stp := wAt_succ (far := farther) hl
    have fin : ∀ {W' : Option (Nat × Rat)} {ma' : Addr} {H'' : Hp} {x4 x5 x6 : Option V}, wAt farther l (i + 1) = W' → Same H H'' → IsFr H'' ma' (wR W') → SmQ 5000 (wR W') → 0 ≤ (wR W').num → Pv (i + 1) [some (.ref a), some (.ref d), some (.ref tl), some (.int (wI W')), some (.ref ma'), x4, x5, x6] H'' := fun e a b c d => by
      subst e
      exact ⟨_, _, _, _, rfl, a, b, c, d⟩
    have hm2 : IsFr (upd H1 t (.tup [.int (i : Int), .ref q])) ma (wR (wAt farther l i)) := (same_upd ht0) _ _ hm
    have hS2 := hS.imp (plR.mono sH2)
    refine ⟨t, _, rfl, .of upd_same, rfl, _, _, rfl, _, _, rfl, rfl, ?_⟩
    refine ⟨_, rfl, _, rfl, _, _, rfl, d, q, L, S, pr, rfl, rfl, sH2 _ _ hd, hS2, q2, _, rfl, ?_⟩
    cases c : stretchOf b.unit S pr with
    | none =>
      rw [← stretch_told (u := b.unit), c]
      rw [c] at stp
      have stp : wAt farther l (i + 1) = wAt farther l i := stp.trans wStep_none
      exact iteF (fin stp sH2 hm2 sm nm)
    | some δ =>
      rw [← stretch_told (u := b.unit), c]
      rw [c] at stp
      have stp : wAt farther l (i + 1) = _ := stp.trans wStep_some
      refine iteT ⟨_, rfl, _, rfl, _, rfl, _, _, _, rfl, a, d, q, b, L, S, pr, δ, rfl, rfl, rfl, hb.mono sH2, sH2 _ _ hd, hS2, q2, wps _ (List.mem_of_getElem? hpr), c, fun sa H3 hsa0 s3 hsq sqs nqs => ?_⟩
      have sH3 := sH2.trans s3
      have hm3 := s3 _ _ hm2
      refine ⟨_, rfl, _, _, rfl, rfl, _, rfl, ?_⟩
      cases c2 : decide (wI (wAt farther l i) < 0) with
      | true =>
        rw [c2, Bool.true_or, if_pos rfl] at stp
        exact iteT (iteT ⟨_, rfl, _, rfl, fin stp sH3 hsq sqs nqs⟩)
      | false =>
        rw [c2, Bool.false_or] at stp
        refine iteF ⟨_, rfl, _, rfl, _, _, rfl, sa, ma, δ, wR (wAt farther l i), rfl, rfl, hsq, hm3, sqs, sm, nqs, nm, fun H4 s4 => ⟨_, rfl, ?_⟩⟩
        cases c3 : farther δ (wR (wAt farther l i)) with
        | true =>
          rw [c3, if_pos rfl] at stp
          exact iteT ⟨_, rfl, _, rfl, fin stp (sH3.trans s4) (s4 _ _ hsq) sqs nqs⟩
        | false =>
          rw [c3, if_neg Bool.false_ne_true] at stp
          exact iteF (fin stp (sH3.trans s4) (s4 _ _ hm3) sm nm)
  · rintro σ H' ⟨ma, x4, x5, x6, rfl, sH, hm, sm⟩
    have e : wAt farther l (rV ps).length = worstBy farther l := by
      rw [show (rV ps).length = l.length by
        show _ = (xs.map (stretchOf b.unit S)).length
        rw [rV_len, hps.len, List.length_map]]
      exact wAt_end farther l
    rw [e] at hm
    refine ⟨_, rfl, _, rfl, (by show 2 ≤ sizeLine; decide), fun p hp => ?_⟩
    refine h p _ ma (sH.free hp) (same_upd2 sH hp) ?_ ((same_upd hp) _ _ hm)
    rw [e]
    exact upd_same
end
end CB
end
section
set_option Elab.async false
set_option linter.all false
set_option maxRecDepth 100000
set_option maxHeartbeats 4000000
namespace CB
open PySem PySem.Spec PyProof.Rows L2
set_option maxRecDepth 8000 in
theorem extend_by_tuple (l b : Addr) (xs ys : Array Value) (n m : Nat) (dd : Option Addr) (ss : Array (Option Value)) (z0 : ¬(!xs.isEmpty && Builtin.List.listTooLong (xs.size + ys.size)) = true) (z1 : xs.size ≤ sizeLine) (z2 : (xs ++ ys).size ≤ sizeLine + 1) :
    Meets (Builtin.«list.extend» ⟨[.ref l, .ref b], []⟩) (fun _ R s => s.heap.get? l = some { cls := .type "list", dict := none, data := .seq xs n, slots := #[] } ∧ s.heap.get? b = some { cls := .type "tuple", dict := dd, data := .seq ys m, slots := ss } ∧
      R (.ok (.ret Value.none)) { s with heap := s.heap.update l (Obj.mapSeq fun x => x ++ ys), toks := s.toks }) := by
  refine .of_wp fun pr wo ar res st k => ?_
  obtain ⟨hp, g, d, tk, os⟩ := st
  obtain ⟨k1, k2, k3⟩ := k
  have t1 := AutoSeq1.sub_tuple_list
  have t2 := AutoSeq1.sub_tuple_tuple
  wp_walk using (wpAny_updateSeq k1 rfl (hz := z1) (_hz' := z2)), AutoSeq1.wpAny_loadPart' k1, AutoSeq1.wpAny_loadPart' k2
  exact ⟨_, rfl, k3⟩
/-- xs.extend(ys), ys a list or a tuple -/
def rExtendX (K : PySem.W.Frag) : V → List V → Hp → VK → Prop := fun x vs H Q => ∃ l b xs zs, x = .ref l ∧ vs = [.ref b] ∧ H l = some (.lst xs) ∧ (H b = some (.lst zs) ∨ SqT K H b zs) ∧ xs.length + zs.length ≤ sizeLine ∧ Q .non (upd H l (.lst (xs ++ zs)))
theorem mt_extendX {X : Cx} : MtM X "list.extend" (rExtendX X.K) := by
  intro pins s σ H x vs v us Q I rx rv h
  obtain ⟨l, b, xs, zs, e1, e2, hH, hB, hz, q⟩ := h
  rcases hB with hB | hB
  · exact mt_extend pins s σ H x vs v us Q I rx rv ⟨l, b, xs, zs, e1, e2, hH, hB, hz, q⟩
  · subst e1 e2
    cases rx
    obtain ⟨u, rfl, ru⟩ := rv.one
    cases ru
    obtain ⟨z, its, n, r, hl, e⟩ := I.lstM hH
    obtain ⟨its2, r2, ⟨o, ho, hc, n2, hd⟩, z2⟩ := I.tuple hB
    obtain ⟨cls, dd, dat, ss⟩ := o
    cases hc
    cases hd
    have l2 := r2.length
    have hlong : ¬ (!its.toArray.isEmpty && Builtin.List.listTooLong (its.toArray.size + its2.toArray.size)) = true := by
      rw [notLongL (by rw [List.size_toArray, List.size_toArray]; omega), Bool.and_false]
      exact Bool.false_ne_true
    refine call_meets F.slot_list_extend ⟨_, e, rfl⟩ F.entry_list_extend (F.args_list_extend_2 _ _)
      (extend_by_tuple l b its.toArray its2.toArray n n2 dd ss hlong (by rw [List.size_toArray]; omega) (by rw [Array.size_append, List.size_toArray, List.size_toArray]; omega)) ⟨e, ho, ?_⟩
    refine ⟨.non, _, I.lset (its' := its ++ its2) hH e (by simp) (r.append r2) ?_, rfl, q⟩
    rw [List.length_append]
    exact hz
end CB
end
section
set_option Elab.async false
set_option linter.all false
set_option maxRecDepth 100000
set_option maxHeartbeats 4000000
namespace CB
open PySem PySem.Spec PyProof.Rows L2
open LsText (Bytes ascii digits spaced)
open LsChain (Told Mark Book commas entryText besideText toldText unitText)
/-! ### texts of bytes -/
def StrIs (z : Str) (t : Bytes) : Prop := z.cps.toList = t.map UInt8.toNat
theorem StrIs.len {z : Str} {t : Bytes} (h : StrIs z t) : z.length = t.length := by
  have := congrArg List.length h
  rw [List.length_map] at this
  exact this
theorem StrIs.app {y z : Str} {s t : Bytes} (h : StrIs y s) (h' : StrIs z t) : StrIs (y ++ z) (s ++ t) := by
  unfold StrIs at *
  rw [PySem.Str.cps_append, Array.toList_append, h, h', List.map_append]
theorem st0 : StrIs Str.empty [] := rfl
theorem small_char {c : Char} (h : c.toNat < 256) : (UInt8.ofNat c.toNat).toNat = c.toNat := by
  simp [UInt8.toNat_ofNat', Nat.mod_eq_of_lt h]
theorem st_of {s : String} (h : ∀ c ∈ s.toList, c.toNat < 256) : StrIs (Str.ofString s) (ascii s) := by
  unfold StrIs ascii
  rw [signs_ofString, List.map_map]
  refine List.map_congr_left fun c hc => ?_
  exact (small_char (h c hc)).symm
theorem digit_small {n : Nat} : ∀ c ∈ (toString n).toList, c.toNat < 256 := fun c hc => by
  have e : (toString n).toList = Nat.toDigits 10 n := by
    show (Nat.repr n).toList = _
    unfold Nat.repr
    exact String.toList_ofList
  rw [e] at hc
  have := Nat.isDigit_of_mem_toDigits (by decide) (by decide) hc
  unfold Char.isDigit at this
  simp only [Bool.and_eq_true, decide_eq_true_eq] at this
  have h2 : c.val ≤ '9'.val := this.2
  have h3 : c.val.toNat ≤ 57 := h2
  show c.val.toNat < 256
  omega
theorem st_int (n : Nat) : StrIs (Str.ofString (toString (n : Int))) (digits n) := st_of (s := toString n) digit_small
theorem small_log {n : Nat} (h : n ≤ 1000000000) : n.log2 < 1920 := by
  by_cases z : n = 0
  · rw [z]; decide
  · rw [Nat.log2_lt z]
    exact Nat.lt_of_le_of_lt h (by decide +kernel)
theorem dig_len {n : Nat} (h : n ≤ 1000000000) : (digits n).length ≤ 1921 := by
  have := int_text_len_1921 (i := (n : Int)) (small_log h)
  rw [(st_int n).len] at this
  exact this
/-! ### rows joined -/
def joinB (u : Bytes) : List Bytes → Bytes
  | [] => []
  | [x] => x
  | x :: r => x ++ (u ++ joinB u r)
theorem joinB_cons {u x : Bytes} {r : List Bytes} (h : r ≠ []) : joinB u (x :: r) = x ++ (u ++ joinB u r) := by
  cases r with
  | nil => exact absurd rfl h
  | cons y r => rfl
theorem joinB_snoc {u x : Bytes} : ∀ {r : List Bytes}, r ≠ [] → joinB u (r ++ [x]) = joinB u r ++ (u ++ x)
  | [], h => absurd rfl h
  | [y], _ => rfl
  | y :: z :: r, _ => by
    have ih := joinB_snoc (u := u) (x := x) (r := z :: r) (by simp)
    show joinB u (y :: (z :: r ++ [x])) = _
    rw [joinB_cons (r := z :: r ++ [x]) (by simp), ih, joinB_cons (r := z :: r) (by simp)]
    simp only [List.append_assoc]
theorem joinB_spaced : ∀ l : List Bytes, joinB [32] l = spaced l
  | [] => rfl
  | [x] => rfl
  | x :: y :: r => by
    have ih := joinB_spaced (y :: r)
    rw [joinB_cons (by simp), ih]
    rfl
theorem joinB_commas : ∀ l : List Bytes, joinB [44, 32] l = commas l
  | [] => rfl
  | [x] => rfl
  | x :: y :: r => by
    have ih := joinB_commas (y :: r)
    rw [joinB_cons (by simp), ih]
    rfl
theorem joinB_len {u : Bytes} {k : Nat} : ∀ {l : List Bytes}, (∀ x ∈ l, x.length ≤ k) → (joinB u l).length ≤ l.length * (k + u.length)
  | [], _ => Nat.zero_le _
  | [x], h => by
    have := h x (by simp)
    show x.length ≤ 1 * (k + u.length)
    omega
  | x :: y :: r, h => by
    have ih := joinB_len (u := u) (k := k) (l := y :: r) fun z hz => h z (List.mem_cons_of_mem _ hz)
    have := h x (by simp)
    rw [joinB_cons (by simp), List.length_append, List.length_append, List.length_cons (a := x), Nat.succ_mul]
    omega
/-! ### the book's text by the program's parts -/
theorem known_text (n : Bytes) (x y : Nat) : toldText (.known n x y) = joinB [32] [ascii "known", n, ascii "at " ++ digits x ++ ascii " " ++ digits y] ++ [59, 10] := by
  show ascii "known " ++ (n ++ (ascii " at " ++ (digits x ++ (32 :: (digits y ++ [59, 10]))))) = _
  rw [show ascii "known " = ascii "known" ++ [32] from rfl, show ascii " at " = [32] ++ ascii "at " from rfl, show ascii " " = [32] from rfl]
  show _ = (ascii "known" ++ ([32] ++ (n ++ ([32] ++ (ascii "at " ++ digits x ++ [32] ++ digits y))))) ++ [59, 10]
  simp only [List.append_assoc, List.cons_append, List.nil_append]
theorem line_text0 (a b : Bytes) (m : Nat) : toldText (.line a b m []) = joinB [32] [ascii "line", a, ascii "to", b, ascii "measures " ++ digits m] ++ [59, 10] := by
  show ascii "line " ++ (a ++ (ascii " to " ++ (b ++ (ascii " measures " ++ (digits m ++ ([] ++ [59, 10])))))) = _
  rw [show ascii "line " = ascii "line" ++ [32] from rfl, show ascii " to " = [32] ++ (ascii "to" ++ [32]) from rfl, show ascii " measures " = [32] ++ ascii "measures " from rfl]
  show _ = (ascii "line" ++ ([32] ++ (a ++ ([32] ++ (ascii "to" ++ ([32] ++ (b ++ ([32] ++ (ascii "measures " ++ digits m))))))))) ++ [59, 10]
  simp only [List.append_assoc, List.cons_append, List.nil_append]
theorem line_text1 (a b : Bytes) (m : Nat) (e : LsChain.Entry) (es : List LsChain.Entry) : toldText (.line a b m (e :: es)) = joinB [32] [ascii "line", a, ascii "to", b, ascii "measures " ++ digits m ++ ascii ":", joinB [44, 32] ((e :: es).map entryText)] ++ [59, 10] := by
  rw [joinB_commas]
  show ascii "line " ++ (a ++ (ascii " to " ++ (b ++ (ascii " measures " ++ (digits m ++ ((if (e :: es) = [] then [] else ascii ": " ++ commas ((e :: es).map entryText)) ++ [59, 10])))))) = _
  rw [if_neg (by simp), show ascii "line " = ascii "line" ++ [32] from rfl, show ascii " to " = [32] ++ (ascii "to" ++ [32]) from rfl, show ascii " measures " = [32] ++ ascii "measures " from rfl, show ascii ": " = ascii ":" ++ [32] from rfl]
  show _ = (ascii "line" ++ ([32] ++ (a ++ ([32] ++ (ascii "to" ++ ([32] ++ (b ++ ([32] ++ (ascii "measures " ++ digits m ++ ascii ":" ++ ([32] ++ commas ((e :: es).map entryText))))))))))) ++ [59, 10]
  simp only [List.append_assoc, List.cons_append, List.nil_append]
theorem unit_text (u : Nat × Nat) : unitText (some u) = joinB [32] [ascii "unit " ++ digits u.1 ++ ascii " / " ++ digits u.2] ++ [59, 10] := by
  show ascii "unit " ++ (digits u.1 ++ (ascii " / " ++ (digits u.2 ++ [59, 10]))) = (ascii "unit " ++ digits u.1 ++ ascii " / " ++ digits u.2) ++ [59, 10]
  simp only [List.append_assoc]
/-! ### how long -/
theorem ascii_len (s : String) : (ascii s).length = s.toList.length := List.length_map _
theorem bes_len {o : Int} (h : o.natAbs ≤ 10000) : (besideText o).length ≤ 1930 := by
  unfold besideText
  have h1 := dig_len (n := o.toNat) (by omega)
  have h2 := dig_len (n := (-o).toNat) (by omega)
  split
  · exact Nat.zero_le _
  · split
    · rw [List.length_append, show (ascii " left ").length = 6 from rfl]
      omega
    · rw [List.length_append, show (ascii " right ").length = 7 from rfl]
      omega
theorem entry_len {m : Nat} {e : LsChain.Entry} (h : WfE m e) (hm : m ≤ 100000) : (entryText e).length ≤ 5800 := by
  have h0 := dig_len (n := e.at_) (by have := h.1; omega)
  unfold entryText
  cases hk : e.mark with
  | station n =>
    have hn := h.name
    rw [hk] at hn
    have hn : n.length ≤ 31 := hn
    simp only [List.length_append, show (ascii " station ").length = 9 from rfl]
    omega
  | tie n o =>
    have hn := h.name
    rw [hk] at hn
    have hn : n.length ≤ 31 := hn
    have hb := h.bes
    rw [hk] at hb
    have hb : o.natAbs ≤ 10000 := hb
    have := bes_len hb
    simp only [List.length_append, show (ascii " tie ").length = 5 from rfl]
    omega
  | feature f o =>
    have hb := h.bes
    rw [hk] at hb
    have hb : o.natAbs ≤ 10000 := hb
    have := bes_len hb
    have hf : f ≤ 9999 := by
      have := h.2
      rw [hk] at this
      exact this.1
    have := dig_len (n := f) (by omega)
    simp only [List.length_append, show (ascii " feature ").length = 9 from rfl]
    omega
theorem commas_len {l : List Bytes} (h : ∀ x ∈ l, x.length ≤ 5800) : (commas l).length ≤ l.length * 5802 := by
  rw [← joinB_commas]
  exact joinB_len h
theorem told_text_len {t : Told} (h : WfT t) : (toldText t).length ≤ 4000 + (match t with | .line _ _ _ es => es.length * 5802 | _ => 0) := by
  cases t with
  | known n x y =>
    have h1 := dig_len (n := x) (by have := h.2.1; omega)
    have h2 := dig_len (n := y) (by have := h.2.2; omega)
    have h3 : n.length ≤ 31 := h.1
    unfold toldText
    simp only [List.length_append, List.length_cons, List.length_nil, show (ascii "known ").length = 6 from rfl, show (ascii " at ").length = 4 from rfl]
    omega
  | line a b m es =>
    have h1 := dig_len (n := m) (by have := h.2.2.2.1; omega)
    have h2 : a.length ≤ 31 := h.1
    have h3 : b.length ≤ 31 := h.2.1
    have h4 : (commas (es.map entryText)).length ≤ es.length * 5802 := by
      have := commas_len (l := es.map entryText) fun x hx => by
        obtain ⟨e, he, rfl⟩ := List.mem_map.mp hx
        exact entry_len (h.2.2.2.2 e he) h.2.2.2.1
      rwa [List.length_map] at this
    unfold toldText
    simp only [List.length_append, List.length_cons, List.length_nil, show (ascii "line ").length = 5 from rfl, show (ascii " to ").length = 4 from rfl, show (ascii " measures ").length = 10 from rfl]
    split
    · simp only [List.length_nil]
      omega
    · simp only [List.length_append, show (ascii ": ").length = 2 from rfl]
      omega
theorem flat_len {ts : List Told} (h : ∀ t ∈ ts, WfT t) : (ts.flatMap toldText).length ≤ ts.length * 4000 + ((ts.filterMap LsChain.lineOf).map fun l : LineT => l.2.2.2.length).sum * 5802 := by
  induction ts with
  | nil => exact Nat.zero_le _
  | cons t ts ih =>
    have ih := ih fun x hx => h x (by simp [hx])
    have ht := told_text_len (h t (by simp))
    rw [List.flatMap_cons, List.length_append, List.length_cons, Nat.succ_mul]
    cases t with
    | known n x y =>
      rw [List.filterMap_cons_none (by rfl)]
      simp only at ht
      omega
    | line a b m es =>
      rw [List.filterMap_cons_some (b := (a, b, m, es)) (by rfl), List.map_cons, List.sum_cons, Nat.add_mul, show ((a, b, m, es) : LineT).2.2.2.length = es.length from rfl]
      simp only at ht
      omega
theorem told_len4 {b : Book} (h : WfB b) : (b.told.flatMap toldText).length ≤ 3500000 := by
  have h1 := flat_len h.told
  have h2 := h.told128
  have h3 : ((b.told.filterMap LsChain.lineOf).map fun l : LineT => l.2.2.2.length).sum ≤ 512 := h.e512
  have h4 := Nat.mul_le_mul_right 4000 h2
  have h5 := Nat.mul_le_mul_right 5802 h3
  omega
theorem unit_len {b : Book} (h : WfB b) : (unitText b.unit).length ≤ 4000 := by
  cases e : b.unit with
  | none => exact Nat.zero_le _
  | some u =>
    have := h.unit u e
    have h1 := dig_len (n := u.1) (by omega)
    have h2 := dig_len (n := u.2) (by omega)
    unfold unitText
    simp only [List.length_append, List.length_cons, List.length_nil, show (ascii "unit ").length = 5 from rfl, show (ascii " / ").length = 3 from rfl]
    omega
end CB
end
section
set_option Elab.async false
set_option linter.all false
set_option maxRecDepth 100000
set_option maxHeartbeats 4000000
namespace CB
open PySem PySem.Spec PyProof.Rows L2
open LsText (Bytes ascii digits spaced)
open LsChain (Told Mark Book commas entryText besideText toldText unitText)
def IsRow (H : Hp) (a : Addr) (t : Bytes) : Prop := H a = some (.lst (bV t)) ∨ H a = some (.tup (bV t))
theorem IsRow.mono {H H' : Hp} {a : Addr} {t : Bytes} (s : Same H H') (h : IsRow H a t) : IsRow H' a t := h.elim (fun h => .inl (s _ _ h)) (fun h => .inr (s _ _ h))
theorem joinB_pre {u : Bytes} (r : List Bytes) : ∀ l : List Bytes, (joinB u l).length ≤ (joinB u (l ++ r)).length
  | [] => Nat.zero_le _
  | [x] => by
    cases r with
    | nil => exact Nat.le_refl _
    | cons y r =>
      show x.length ≤ (x ++ _).length
      rw [List.length_append]
      omega
  | x :: y :: l => by
    have ih := joinB_pre (u := u) r (y :: l)
    show _ ≤ (joinB u (x :: (y :: l ++ r))).length
    rw [joinB_cons (r := y :: l) (by simp), joinB_cons (r := y :: l ++ r) (by simp), List.length_append, List.length_append, List.length_append, List.length_append]
    omega
theorem bV_app (s t : Bytes) : bV s ++ bV t = bV (s ++ t) := (List.map_append ..).symm
def spBytesOf : Sp := sp1 fun x H Q _ => ∃ (z : Str) (t : Bytes), x = .str z ∧ StrIs z t ∧ t.length ≤ 5000000 ∧ RetL (bV t) H Q
def spJoined : Sp := sp2 fun x y H Q _ => ∃ (ra : Addr) (z : Str) (as : List Addr) (ts : List Bytes) (u : Bytes), x = .ref ra ∧ y = .str z ∧ H ra = some (.lst (rV as)) ∧ All2 (IsRow H) as ts ∧ StrIs z u ∧ u.length ≤ 100 ∧ ts.length ≤ 100000 ∧ (joinB u ts).length ≤ 10000000 ∧ RetL (bV (joinB u ts)) H Q
def spNamesB : Sp := sp1 fun x H Q _ => ∃ (ra : Addr) (as : List Addr) (ts : List Bytes), x = .ref ra ∧ H ra = some (.lst (rV as)) ∧ All2 (IsRow H) as ts ∧ ts.length ≤ 100000 ∧ (joinB [32] ts).length ≤ 10000000 ∧ RetL (bV (joinB [32] ts)) H Q
def spSentence : Sp := sp1 fun x H Q _ => ∃ (ra : Addr) (as : List Addr) (ts : List Bytes), x = .ref ra ∧ H ra = some (.lst (rV as)) ∧ All2 (IsRow H) as ts ∧ ts.length ≤ 100000 ∧ (joinB [32] ts).length ≤ 9999990 ∧ RetL (bV (joinB [32] ts ++ [59, 10])) H Q
def spBesideB : Sp := sp1 fun x H Q _ => ∃ o : Int, x = .int o ∧ o.natAbs ≤ 10000 ∧ RetL (bV (besideText o)) H Q
def spEntryBytes (K : PySem.W.Frag) : Sp := sp1 fun x H Q _ => ∃ (a : Addr) (e : LsChain.Entry) (m : Nat), x = .ref a ∧ IsEnt K H a e ∧ WfE m e ∧ m ≤ 100000 ∧ RetL (bV (entryText e)) H Q
def spKnownL (K : PySem.W.Frag) : Sp := sp1 fun x H Q _ => ∃ (a : Addr) (n : Bytes) (i j : Nat), x = .ref a ∧ IsKno K H a n i j ∧ WfT (.known n i j) ∧ RetL (bV (toldText (.known n i j))) H Q
def spLineL (K : PySem.W.Frag) : Sp := sp1 fun x H Q _ => ∃ (a : Addr) (n1 n2 : Bytes) (m : Nat) (es : List LsChain.Entry), x = .ref a ∧ IsLin K H a (n1, n2, m, es) ∧ WfT (.line n1 n2 m es) ∧ es.length ≤ 512 ∧ RetL (bV (toldText (.line n1 n2 m es))) H Q
def spBookB (K : PySem.W.Frag) : Sp := sp1 fun x H Q _ => ∃ (a : Addr) (b : Book), x = .ref a ∧ IsBook K H a b ∧ RetL (bV b.text) H Q
section
variable {P : Program} {w : World} {K : PySem.W.Frag} {mg : Str → Option Value} {base : Heap}
theorem size_ok {n : Nat} (h : n ≤ 16000000) : n ≤ sizeLine := by
  rw [sizeLine_eq]
  omega
theorem size_lt {n : Nat} (h : n ≤ 16000000) : n < sizeLine := by
  rw [sizeLine_eq]
  omega
theorem ok_bytes_of (T : Txt K mg) : Ok P w K mg base CX0 1 ("bytes_of", none) ["words"] spBytesOf := by
  refine mk_ok T 38 rfl sc_bytes_of T.g_bytes_of (fun _ _ _ _ _ _ us hl => match us, hl with | [_], _ => rfl) len1 (fun cdv A outer s H vs Q E hr h => ?_)
  refine ⟨_, (pss_one (ps_ret (pe_lc (own := [("sign", 1)]) (g := (gName 1)) (tt := tYes) (te := (tCB rOrd (tCons (tVar 1) tNil))) rfl sc_bytes_of.nd (pi_str (pv 0)) (blkOk_by (own := [("sign", 1)]) (N := N_bytes_of) (sc := defScope s_bytes_of) (by decide +kernel)) (fun _ _ _ _ _ => (pg_name (i := 1) sc_bytes_of.nd rfl (Or.inl rfl))) (fun _ _ _ _ _ => pts_nil) (fun _ _ _ _ _ => (pe_callB call_ord1 (by rfl) T.n_ord (by decide +kernel) (pa_cons (pv 1) pa_nil)))))), ?_⟩
  obtain ⟨x0, rfl, h⟩ := h
  obtain ⟨z, t, rfl, hz, hl, h⟩ := h
  have hn : z.cps.size = t.length := hz.len
  refine ⟨_, rfl, z, rfl, fun D hD => ?_⟩
  refine lc_it (walk_str (z := z)) (fun i H' => H' = upd H D (.lst (bV (t.take i)))) rfl (fun _ _ _ _ => trivial) ?_ ?_
  · rintro i x H' H'' hi rfl ⟨rfl, c, hc, rfl⟩
    have hz2 : (z.cps.toList)[i]? = some c := by rw [Array.getElem?_toList]; exact hc
    rw [hz, List.getElem?_map] at hz2
    cases ht : t[i]? with
    | none => rw [ht] at hz2; cases hz2
    | some b =>
      rw [ht] at hz2
      cases hz2
      refine ⟨rfl, yes ?_⟩
      refine iteT ?_
      refine ⟨_, rfl, _, rfl, rfl, _, upd_same, ?_, ?_⟩
      · rw [bV_len, List.length_take]
        exact size_lt (by omega)
      · rw [upd_upd, take_snoc ht, ← bV_app]
        rfl
  · rintro H' rfl
    rw [hn, List.take_length]
    exact h.go (Same.refl _) hD
theorem ok_joined (T : Txt K mg) : Ok P w K mg base CX0 2 ("joined", none) ["rows", "between"] spJoined := by
  refine mk_ok T 54 rfl sc_joined T.g_joined (fun _ _ _ _ _ _ us hl => match us, hl with | [_, _], _ => rfl) len2 (fun cdv A outer s H vs Q E hr h => ?_)
  refine ⟨_, (pss_cons (ps_set (i := 2) sc_joined.nd rfl (Or.inl rfl) (pe_lst pa_nil))
      (pss_cons (ps_for PassesOwn.never rfl (pi_range1 rfl T.n_range (pa_cons (pe_callB call_len (by rfl) T.n_len (by decide +kernel) (pa_cons (pv 0) pa_nil)) pa_nil)) (pg_name (i := 3) sc_joined.nd rfl (Or.inl rfl))
      (pss_cons (ps_if (pt_cmpR op_gt (pv 3) pe_int (nomark _)) (pss_one (ps_expr (pe_bm PySem.F.plainAttrs_list PySem.F.slot_list_extend PySem.F.type_list_extend mt_extendX (pv 2) (pa_cons (pe_c (ok_bytes_of T) hr (pa_cons (pv 1) pa_nil)) pa_nil)))) pss_nil)
      (pss_one (ps_expr (pe_bm PySem.F.plainAttrs_list PySem.F.slot_list_extend PySem.F.type_list_extend mt_extendX (pv 2) (pa_cons (pe_ix ix_list (pv 0) (pv 3) (fun _ _ => rfl)) pa_nil))))))
      (pss_one (ps_ret (pv 2))))), ?_⟩
  obtain ⟨x0, x1, rfl, h⟩ := h
  obtain ⟨ra, z, as, ts, u, rfl, rfl, hra, hts, hz, hu, hn, hl, h⟩ := h
  refine ⟨(by show 0 ≤ sizeLine; decide), fun wl hwl => ?_⟩
  have s0 : Same H (upd H wl (.lst [])) := same_upd hwl
  have la := hts.len
  refine ⟨_, rfl, _, _, rfl, .inl ⟨_, .of (s0 _ _ hra), rfl⟩, ((rV as).length : Int), rfl, by omega, by rw [rV_len]; omega, for_range (lo := 0) (n := ((rV as).length : Int).toNat) (fun i σ H' => ∃ v, σ = [some (.ref ra), some (.str z), some (.ref wl), v] ∧ Same H H' ∧ H' wl = some (.lst (bV (joinB u (ts.take i))))) ⟨none, rfl, s0, upd_same⟩ ?_ ?_⟩
  · rintro i σ H' hi ⟨v, rfl, sH, hw⟩
    have hi' : i < as.length := by rw [rV_len] at hi; omega
    obtain ⟨ea, hea⟩ : ∃ ea, as[i]? = some ea := ⟨_, List.getElem?_eq_getElem hi'⟩
    obtain ⟨x, hx, hrow⟩ := hts.get hea
    have pre := joinB_pre (u := u) (ts.drop (i + 1)) (ts.take (i + 1))
    rw [List.take_append_drop] at pre
    have last : ∀ (D : Ends) (H2 : Hp) (pre' : Bytes), Same H H2 → H2 wl = some (.lst (bV pre')) → joinB u (ts.take (i + 1)) = pre' ++ x → (∀ σ H', D.nx σ H' = ∃ v, σ = [some (.ref ra), some (.str z), some (.ref wl), v] ∧ Same H H' ∧ H' wl = some (.lst (bV (joinB u (ts.take (i + 1)))))) →
        tDrop (tBM K "list" (rExtendX K) (tVar 2) (tCons (tOp (rIxL K) (tVar 0) (tVar 3)) tNil)) D [some (.ref ra), some (.str z), some (.ref wl), some (.int (0 + (i : Int)))] H2 := fun D H2 pre' s2 w2 ej hD => by
      rw [ej, List.length_append] at pre
      refine ⟨_, rfl, .inl ⟨rfl, _, SqL.of w2⟩, _, rfl, _, rfl, _, _, _, _, rfl, rfl, .of (s2 _ _ hra), ?_, wl, ea, _, bV x, rfl, rfl, w2, ?_, ?_, ?_⟩
      · have : (rV as)[i]? = some (.ref ea) := rV_at hea
        rw [Int.zero_add]
        exact atI_nat this
      · rcases hrow.mono s2 with k | k
        · exact .inl k
        · exact .inr (.of k)
      · rw [bV_len, bV_len]
        exact size_ok (by omega)
      · show D.nx _ _
        rw [hD]
        refine ⟨_, rfl, same_mut s2 hwl, ?_⟩
        rw [upd_same, ej, bV_app]
    refine ⟨_, rfl, _, _, rfl, rfl, _, rfl, ?_⟩
    by_cases z0 : i = 0
    · subst z0
      rw [decide_eq_false (by decide)]
      refine iteF (last _ H' [] sH hw ?_ fun _ _ => rfl)
      cases ts with
      | nil => cases hx
      | cons y ys =>
        cases hx
        rfl
    · rw [decide_eq_true (by omega)]
      have ej : joinB u (ts.take (i + 1)) = joinB u (ts.take i) ++ u ++ x := by
        rw [take_snoc hx, joinB_snoc (fun q => ?_), List.append_assoc]
        have := congrArg List.length q
        rw [List.length_take] at this
        simp only [List.length_nil] at this
        omega
      have pre2 := pre
      rw [ej, List.length_append] at pre2
      refine iteT ⟨_, rfl, .inl ⟨rfl, _, SqL.of hw⟩, _, rfl, _, rfl, z, u, rfl, hz, by omega, fun p H2 hp s2 e2 => ?_⟩
      refine ⟨wl, p, _, _, rfl, rfl, s2 _ _ hw, .inl e2, ?_, ?_⟩
      · rw [bV_len, bV_len]
        rw [List.length_append] at pre2
        exact size_ok (by omega)
      · refine last _ _ (joinB u (ts.take i) ++ u) (same_mut (sH.trans s2) hwl) ?_ ej fun _ _ => rfl
        rw [upd_same, bV_app]
  · rintro σ H' ⟨v, rfl, sH, hw⟩
    have e : ((rV as).length : Int).toNat = ts.length := by rw [rV_len, la]; omega
    rw [e, List.take_length] at hw
    exact ⟨_, rfl, h wl H' hwl sH hw⟩
theorem ok_names_bytes (T : Txt K mg) : Ok P w K mg base CX0 3 ("names_bytes", none) ["names"] spNamesB := by
  refine mk_ok T 55 rfl sc_names_bytes T.g_names_bytes (fun _ _ _ _ _ _ us hl => match us, hl with | [_], _ => rfl) len1 (fun cdv A outer s H vs Q E hr h => ?_)
  refine ⟨_, (pss_one (ps_ret (pe_c (ok_joined T) hr (pa_cons (pv 0) (pa_cons pe_str pa_nil))))), ?_⟩
  obtain ⟨x0, rfl, h⟩ := h
  obtain ⟨ra, as, ts, rfl, hra, hts, hn, hl, h⟩ := h
  exact ⟨_, rfl, _, _, rfl, ra, _, as, ts, [32], rfl, rfl, hra, hts, st_of (s := " ") (by decide), by decide, hn, hl, h⟩
theorem ok_sentence_line (T : Txt K mg) : Ok P w K mg base CX0 3 ("sentence_line", none) ["parts"] spSentence := by
  refine mk_ok T 56 rfl sc_sentence_line T.g_sentence_line (fun _ _ _ _ _ _ us hl => match us, hl with | [_], _ => rfl) len1 (fun cdv A outer s H vs Q E hr h => ?_)
  refine ⟨_, (pss_one (ps_ret (pe_op op_cat (pe_c (ok_joined T) hr (pa_cons (pv 0) (pa_cons pe_str pa_nil))) (pe_lst (pa_cons (pe_cst T.m_SEMICOLON) (pa_cons (pe_cst T.m_LINE_FEED) pa_nil)))))), ?_⟩
  obtain ⟨x0, rfl, h⟩ := h
  obtain ⟨ra, as, ts, rfl, hra, hts, hn, hl, h⟩ := h
  refine ⟨_, rfl, _, _, rfl, ra, _, as, ts, [32], rfl, rfl, hra, hts, st_of (s := " ") (by decide), by decide, hn, by omega, fun p H1 hp s1 e1 => ?_⟩
  refine ⟨(by show 2 ≤ sizeLine; decide), fun l hl1 => ⟨p, l, bV (joinB [32] ts), _, rfl, rfl, ?_, upd_same, ?_, fun r hr1 => ?_⟩⟩
  · rw [upd_ne (ne_some e1 hl1)]
    exact e1
  · rw [bV_len]
    exact size_ok (by show _ + 2 ≤ _; omega)
  · have : bV (joinB [32] ts) ++ [V.int 59, V.int 10] = bV (joinB [32] ts ++ [59, 10]) := bV_app _ [59, 10]
    rw [this]
    exact h.go (same_upd2 s1 hl1) hr1
end
end CB
end
section
set_option Elab.async false
set_option linter.all false
set_option maxRecDepth 100000
set_option maxHeartbeats 4000000
namespace CB
open PySem PySem.Spec PyProof.Rows L2
open LsText (Bytes ascii digits spaced)
open LsChain (Told Mark Book commas entryText besideText toldText unitText)
theorem StrIs.ok {z : Str} {t : Bytes} (h : StrIs z t) (l : t.length ≤ 16000000) : z.length ≤ sizeLine := by
  rw [h.len]
  exact size_ok l
theorem st_neg {o : Int} (h : o < 0) : StrIs (Str.ofString (toString (-o))) (digits (-o).toNat) := by
  have e : -o = (((-o).toNat : Nat) : Int) := by omega
  rw [e]
  exact st_int _
theorem st_pos {o : Int} (h : 0 < o) : StrIs (Str.ofString (toString o)) (digits o.toNat) := by
  have e : o = ((o.toNat : Nat) : Int) := by omega
  rw [e]
  exact st_int _
theorem log_ok {i : Int} (h : i.natAbs ≤ 1000000000) : i.natAbs.log2 < 1920 := small_log h
/-- two new lists, one behind the other -/
theorem cat_ret {H H1 : Hp} {Q : VK} {p l : Addr} {s t : Bytes} (h : RetL (bV (s ++ t)) H Q) (sm : Same H H1) (hp : H1 p = some (.lst (bV s))) (hl : H1 l = some (.lst (bV t))) (len : s.length + t.length ≤ 10000000) : rCat (.ref p) (.ref l) H1 Q := by
  refine ⟨p, l, _, _, rfl, rfl, hp, hl, ?_, fun r hr1 => ?_⟩
  · rw [bV_len, bV_len]
    exact size_ok (by omega)
  · rw [bV_app]
    exact h.go sm hr1
section
variable {P : Program} {w : World} {K : PySem.W.Frag} {mg : Str → Option Value} {base : Heap}
theorem ok_beside_bytes (T : Txt K mg) : Ok P w K mg base CX0 2 ("beside_bytes", none) ["beside"] spBesideB := by
  refine mk_ok T 57 rfl sc_beside_bytes T.g_beside_bytes (fun _ _ _ _ _ _ us hl => match us, hl with | [_], _ => rfl) len1 (fun cdv A outer s H vs Q E hr h => ?_)
  refine ⟨_, (pss_cons (ps_if (pt_cmpR op_gt (pv 0) pe_int (nomark _)) (pss_one (ps_ret (pe_c (ok_bytes_of T) hr (pa_cons (pe_joined (PJ.cons pe_str (PJ.cons (pe_fmt (pv 0)) PJ.nil))) pa_nil)))) pss_nil)
      (pss_cons (ps_if (pt_cmpR op_lt (pv 0) pe_int (nomark _)) (pss_one (ps_ret (pe_c (ok_bytes_of T) hr (pa_cons (pe_joined (PJ.cons pe_str (PJ.cons (pe_fmt (pe_un un_neg (pv 0))) PJ.nil))) pa_nil)))) pss_nil)
      (pss_one (ps_ret (pe_lst pa_nil))))), ?_⟩
  obtain ⟨x0, rfl, h⟩ := h
  obtain ⟨o, rfl, ho, h⟩ := h
  refine ⟨_, rfl, _, _, rfl, rfl, _, rfl, ?_⟩
  unfold besideText at h
  by_cases c : 0 < o
  · rw [if_neg (by omega), if_pos c] at h
    rw [decide_eq_true (show o > 0 from c)]
    have i1 : StrIs (Str.empty ++ Str.ofString " left ") (ascii " left ") := st0.app (st_of (by decide))
    have i2 := i1.app (st_pos c)
    have l2 := dig_len (n := o.toNat) (by omega)
    have l3 : (ascii " left " ++ digits o.toNat).length ≤ 10000 := by
      rw [List.length_append, show (ascii " left ").length = 6 from rfl]
      omega
    exact iteT ⟨_, rfl, i1.ok (by decide), _, rfl, .inr ⟨_, rfl, log_ok (by omega), _, rfl, i2.ok (by omega), _, rfl, _, _, rfl, i2, by omega, h⟩⟩
  · rw [decide_eq_false (show ¬ o > 0 from c)]
    refine iteF ⟨_, rfl, _, _, rfl, rfl, _, rfl, ?_⟩
    by_cases c2 : o < 0
    · rw [if_neg (by omega), if_neg c] at h
      rw [decide_eq_true c2]
      have i1 : StrIs (Str.empty ++ Str.ofString " right ") (ascii " right ") := st0.app (st_of (by decide))
      have i2 := i1.app (st_neg c2)
      have l2 := dig_len (n := (-o).toNat) (by omega)
      have l3 : (ascii " right " ++ digits (-o).toNat).length ≤ 10000 := by
        rw [List.length_append, show (ascii " right ").length = 7 from rfl]
        omega
      exact iteT ⟨_, rfl, i1.ok (by decide), _, rfl, _, rfl, .inr ⟨_, rfl, log_ok (by omega), _, rfl, i2.ok (by omega), _, rfl, _, _, rfl, i2, by omega, h⟩⟩
    · rw [if_pos (by omega)] at h
      rw [decide_eq_false c2]
      exact iteF ⟨(by show 0 ≤ sizeLine; decide), fun p hp => h.go (Same.refl _) hp⟩
theorem st_lit {s : String} (h : ∀ c ∈ s.toList, c.toNat < 256 := by decide) : StrIs (Str.ofString s) (ascii s) := st_of h
theorem ok_entry_bytes (T : Txt K mg) : Ok P w K mg base CX0 3 ("entry_bytes", none) ["entry"] (spEntryBytes K) := by
  refine mk_ok T 58 rfl sc_entry_bytes T.g_entry_bytes (fun _ _ _ _ _ _ us hl => match us, hl with | [_], _ => rfl) len1 (fun cdv A outer s H vs Q E hr h => ?_)
  refine ⟨_, (pss_cons (ps_if (pt_cmpR op_eq (pe_fld (pv 0) rfl) (pe_cst T.m_STATION) (nomark _)) (pss_one (ps_ret (pe_op op_cat (pe_c (ok_bytes_of T) hr (pa_cons (pe_joined (PJ.cons (pe_fmt (pe_fld (pv 0) rfl)) (PJ.cons pe_str PJ.nil))) pa_nil)) (pe_callTy call_list_of (by rfl) T.n_list (by decide +kernel) (pa_cons (pe_fld (pv 0) rfl) pa_nil))))) pss_nil)
      (pss_cons (ps_if (pt_cmpR op_eq (pe_fld (pv 0) rfl) (pe_cst T.m_TIE) (nomark _)) (pss_one (ps_ret (pe_op op_cat (pe_op op_cat (pe_c (ok_bytes_of T) hr (pa_cons (pe_joined (PJ.cons (pe_fmt (pe_fld (pv 0) rfl)) (PJ.cons pe_str PJ.nil))) pa_nil)) (pe_callTy call_list_of (by rfl) T.n_list (by decide +kernel) (pa_cons (pe_fld (pv 0) rfl) pa_nil))) (pe_c (ok_beside_bytes T) hr (pa_cons (pe_fld (pv 0) rfl) pa_nil))))) pss_nil)
      (pss_one (ps_ret (pe_op op_cat (pe_c (ok_bytes_of T) hr (pa_cons (pe_joined (PJ.cons (pe_fmt (pe_fld (pv 0) rfl)) (PJ.cons pe_str (PJ.cons (pe_fmt (pe_fld (pv 0) rfl)) PJ.nil)))) pa_nil)) (pe_c (ok_beside_bytes T) hr (pa_cons (pe_fld (pv 0) rfl) pa_nil))))))), ?_⟩
  obtain ⟨x0, rfl, h⟩ := h
  obtain ⟨ea, e, m, rfl, ⟨dx, na, e1, e2⟩, wf, hm, h⟩ := h
  have h0 : e.at_ ≤ 100000 := by have := wf.1; omega
  have el := entry_len wf hm
  have ld := dig_len (n := e.at_) (by omega)
  have i0 : StrIs (Str.empty ++ Str.ofString (toString (e.at_ : Int))) (digits e.at_) := st0.app (st_int _)
  refine ⟨_, rfl, ea, _, dx, _, _, rfl, e1, T.c_Entry, T.a_Entry_kind, rfl, rfl, _, rfl, ?_⟩
  cases hk : e.mark with
  | station n =>
    rw [hk] at e2
    have tx : entryText e = digits e.at_ ++ ascii " station " ++ n := by
      unfold entryText
      rw [hk, List.append_assoc]
    rw [tx] at h el
    have i1 := i0.app (st_lit (s := " station "))
    have el1 := el
    rw [List.length_append] at el1
    refine iteT ⟨_, rfl, ea, _, dx, _, _, rfl, e1, T.c_Entry, T.a_Entry_chainage, rfl, .inr ⟨_, rfl, log_ok (by omega), _, rfl, i0.ok (by omega), _, rfl, i1.ok (by omega), _, rfl, _, _, rfl, i1, by omega, fun p H1 hp s1 f1 => ?_⟩⟩
    refine ⟨_, rfl, ea, _, dx, _, _, rfl, s1 _ _ e1, T.c_Entry, T.a_Entry_name, rfl, na, _, rfl, .inr (.of (s1 _ _ e2)), fun l hl => ?_⟩
    exact cat_ret h (same_upd2 s1 hl) (by rw [upd_ne (ne_some f1 hl)]; exact f1) upd_same (by rw [mkName] at *; omega)
  | tie n o =>
    rw [hk] at e2
    have e2 : H na = some (.tup (bV n)) := e2
    have tx : entryText e = digits e.at_ ++ ascii " tie " ++ n ++ besideText o := by
      unfold entryText
      rw [hk]
      simp only [List.append_assoc]
    have eb : mkBes e.mark = o := by rw [hk]; rfl
    have hb := wf.bes
    rw [eb] at hb
    rw [tx] at h el
    have i1 := i0.app (st_lit (s := " tie "))
    have el1 := el
    simp only [List.length_append] at el1
    have li : (digits e.at_ ++ ascii " tie ").length ≤ 5800 := by rw [List.length_append]; omega
    refine iteF ⟨_, rfl, ea, _, dx, _, _, rfl, e1, T.c_Entry, T.a_Entry_kind, rfl, rfl, _, rfl, ?_⟩
    rw [hk]
    refine iteT ⟨_, rfl, ea, _, dx, _, _, rfl, e1, T.c_Entry, T.a_Entry_chainage, rfl, .inr ⟨_, rfl, log_ok (by omega), _, rfl, i0.ok (by omega), _, rfl, i1.ok (by omega), _, rfl, _, _, rfl, i1, by omega, fun p H1 hp s1 f1 => ?_⟩⟩
    refine ⟨_, rfl, ea, _, dx, _, _, rfl, s1 _ _ e1, T.c_Entry, T.a_Entry_name, rfl, na, _, rfl, .inr (.of (s1 _ _ e2)), fun l hl => ?_⟩
    have s2 : Same H (upd H1 l (.lst (bV n))) := same_upd2 s1 hl
    refine cat_ret (t := n) (fun q H3 hq s3 f3 => ?_) (Same.refl _) (by rw [upd_ne (ne_some f1 hl)]; exact f1) upd_same (by rw [List.length_append]; omega)
    refine ⟨_, rfl, ea, _, dx, _, _, rfl, s3 _ _ (s2 _ _ e1), T.c_Entry, T.a_Entry_beside, rfl, _, rfl, o, ?_, hb, fun r H4 hr s4 f4 => ?_⟩
    · rw [hk]
      rfl
    · exact cat_ret h ((s2.trans s3).trans s4) (s4 _ _ f3) f4 (by simp only [List.length_append]; omega)
  | feature f o =>
    have tx : entryText e = digits e.at_ ++ ascii " feature " ++ digits f ++ besideText o := by
      unfold entryText
      rw [hk]
      simp only [List.append_assoc]
    have eb : mkBes e.mark = o := by rw [hk]; rfl
    have hb := wf.bes
    rw [eb] at hb
    rw [tx] at h el
    have hf : f ≤ 9999 := by
      have := wf.2
      rw [hk] at this
      exact this.1
    have i1 := i0.app (st_lit (s := " feature "))
    have i2 := i1.app (st_int f)
    have el1 := el
    simp only [List.length_append] at el1
    have li : (digits e.at_ ++ ascii " feature ").length ≤ 5800 := by rw [List.length_append]; omega
    have li2 : (digits e.at_ ++ ascii " feature " ++ digits f).length ≤ 5800 := by simp only [List.length_append]; omega
    refine iteF ⟨_, rfl, ea, _, dx, _, _, rfl, e1, T.c_Entry, T.a_Entry_kind, rfl, rfl, _, rfl, ?_⟩
    rw [hk]
    refine iteF ⟨_, rfl, ea, _, dx, _, _, rfl, e1, T.c_Entry, T.a_Entry_chainage, rfl, .inr ⟨_, rfl, log_ok (by omega), _, rfl, i0.ok (by omega), _, rfl, i1.ok (by omega), ?_⟩⟩
    refine ⟨_, rfl, ea, _, dx, _, _, rfl, e1, T.c_Entry, T.a_Entry_number, rfl, .inr ⟨(f : Int), ?_, log_ok (by omega), _, rfl, i2.ok (by omega), _, rfl, _, _, rfl, i2, by omega, fun p H1 hp s1 f1 => ?_⟩⟩
    · rw [hk]
      rfl
    refine ⟨_, rfl, ea, _, dx, _, _, rfl, s1 _ _ e1, T.c_Entry, T.a_Entry_beside, rfl, _, rfl, o, ?_, hb, fun r H4 hr s4 f4 => ?_⟩
    · rw [hk]
      rfl
    · exact cat_ret h (s1.trans s4) (s4 _ _ f1) f4 (by simp only [List.length_append]; omega)
end
end CB
end
section
set_option Elab.async false
set_option linter.all false
set_option maxRecDepth 100000
set_option maxHeartbeats 4000000
namespace CB
open PySem PySem.Spec PyProof.Rows L2
open LsText (Bytes ascii digits spaced)
open LsChain (Told Mark Book commas entryText besideText toldText unitText)
section
variable {P : Program} {w : World} {K : PySem.W.Frag} {mg : Str → Option Value} {base : Heap}
theorem lit_row {H : Hp} {s : String} {z : Str} (hz : StrIs z (ascii s)) (hl : (ascii s).length ≤ 5000000 := by decide) {Q : VK} (k : RetL (bV (ascii s)) H Q) : spBytesOf [.str z] H Q E0 := ⟨_, rfl, z, _, rfl, hz, hl, k⟩
theorem ok_known_line (T : Txt K mg) : Ok P w K mg base CX0 4 ("known_line", none) ["known"] (spKnownL K) := by
  refine mk_ok T 59 rfl sc_known_line T.g_known_line (fun _ _ _ _ _ _ us hl => match us, hl with | [_], _ => rfl) len1 (fun cdv A outer s H vs Q E hr h => ?_)
  refine ⟨_, (pss_one (ps_ret (pe_c (ok_sentence_line T) hr (pa_cons (pe_lst (pa_cons (pe_c (ok_bytes_of T) hr (pa_cons pe_str pa_nil)) (pa_cons (pe_fld (pv 0) rfl) (pa_cons (pe_c (ok_bytes_of T) hr (pa_cons (pe_joined (PJ.cons pe_str (PJ.cons (pe_fmt (pe_fld (pv 0) rfl)) (PJ.cons pe_str (PJ.cons (pe_fmt (pe_fld (pv 0) rfl)) PJ.nil))))) pa_nil)) pa_nil)))) pa_nil)))), ?_⟩
  obtain ⟨x0, rfl, h⟩ := h
  obtain ⟨a, n, i, j, rfl, ⟨dx, na, k1, k2⟩, wf, h⟩ := h
  have wx : i ≤ 999999 := wf.2.1
  have wy : j ≤ 999999 := wf.2.2
  have wn : n.length ≤ 31 := wf.1
  have li := dig_len (n := i) (by omega)
  have lj := dig_len (n := j) (by omega)
  rw [known_text] at h
  refine ⟨_, rfl, _, _, rfl, st_lit (s := "known"), by decide, fun p1 H1 hp1 s1 f1 => ?_⟩
  refine ⟨_, rfl, a, _, dx, _, _, rfl, s1 _ _ k1, T.c_Known, T.a_Known_name, rfl, ?_⟩
  have i1 : StrIs (Str.empty ++ Str.ofString "at ") (ascii "at ") := st0.app st_lit
  have i2 := i1.app (st_int i)
  have i3 := i2.app (st_lit (s := " "))
  have i4 := i3.app (st_int j)
  have l4 : (ascii "at " ++ digits i ++ ascii " " ++ digits j).length ≤ 4000 := by
    simp only [List.length_append, show (ascii "at ").length = 3 from rfl, show (ascii " ").length = 1 from rfl]
    omega
  have l3 : (ascii "at " ++ digits i ++ ascii " ").length ≤ 4000 := by
    rw [List.length_append] at l4
    omega
  have l2 : (ascii "at " ++ digits i).length ≤ 4000 := by
    rw [List.length_append] at l3
    omega
  refine ⟨_, rfl, i1.ok (by decide), _, rfl, a, _, dx, _, _, rfl, s1 _ _ k1, T.c_Known, T.a_Known_x, rfl, .inr ⟨_, rfl, log_ok (by omega), _, rfl, i2.ok (by omega), _, rfl, i3.ok (by omega), ?_⟩⟩
  refine ⟨_, rfl, a, _, dx, _, _, rfl, s1 _ _ k1, T.c_Known, T.a_Known_y, rfl, .inr ⟨_, rfl, log_ok (by omega), _, rfl, i4.ok (by omega), _, rfl, _, _, rfl, i4, by omega, fun p2 H2 hp2 s2 f2 => ?_⟩⟩
  refine ⟨(by show 3 ≤ sizeLine; decide), fun l hl => ?_⟩
  have s3 : Same H2 (upd H2 l (.lst (rV [p1, na, p2]))) := same_upd hl
  refine ⟨_, rfl, l, [p1, na, p2], [ascii "known", n, ascii "at " ++ digits i ++ ascii " " ++ digits j], rfl, upd_same, .cons (.inl (s3 _ _ (s2 _ _ f1))) (.cons (.inr (s3 _ _ (s2 _ _ (s1 _ _ k2)))) (.cons (.inl (s3 _ _ f2)) .nil)), by show 3 ≤ 100000; decide, ?_, ?_⟩
  · show (ascii "known" ++ ([32] ++ (n ++ ([32] ++ (ascii "at " ++ digits i ++ ascii " " ++ digits j))))).length ≤ _
    rw [List.length_append, List.length_append, List.length_append, List.length_append, show (ascii "known").length = 5 from rfl]
    show 5 + (1 + (n.length + (1 + _))) ≤ _
    omega
  · exact h.mono ((s1.trans s2).trans s3)
theorem ok_line_line (T : Txt K mg) : Ok P w K mg base CX0 4 ("line_line", none) ["line"] (spLineL K) := by
  refine mk_ok T 60 rfl sc_line_line T.g_line_line (fun _ _ _ _ _ _ us hl => match us, hl with | [_], _ => rfl) len1 (fun cdv A outer s H vs Q E hr h => ?_)
  refine ⟨_, (pss_cons (ps_set (i := 1) sc_line_line.nd rfl (Or.inl rfl) (pe_c (ok_bytes_of T) hr (pa_cons (pe_joined (PJ.cons pe_str (PJ.cons (pe_fmt (pe_fld (pv 0) rfl)) PJ.nil))) pa_nil)))
      (pss_cons (ps_set (i := 2) sc_line_line.nd rfl (Or.inl rfl) (pe_lst (pa_cons (pe_c (ok_bytes_of T) hr (pa_cons pe_str pa_nil)) (pa_cons (pe_fld (pv 0) rfl) (pa_cons (pe_c (ok_bytes_of T) hr (pa_cons pe_str pa_nil)) (pa_cons (pe_fld (pv 0) rfl) (pa_cons (pv 1) pa_nil)))))))
      (pss_cons (ps_if (pt_not (pt_truth (pe_fld (pv 0) rfl) (by intro _; rfl))) (pss_one (ps_ret (pe_c (ok_sentence_line T) hr (pa_cons (pv 2) pa_nil)))) pss_nil)
      (pss_cons (ps_asg (pe_op op_cat (pv 1) (pe_c (ok_bytes_of T) hr (pa_cons pe_str pa_nil))) (pg_sub (pv 2) pe_int set_list))
      (pss_cons (ps_expr (pe_bm PySem.F.plainAttrs_list PySem.F.slot_list_append PySem.F.type_list_append mt_append (pv 2) (pa_cons (pe_c (ok_joined T) hr (pa_cons (pe_lc (own := [("entry", 3)]) (g := (gName 3)) (tt := tYes) (te := (tCall (spEntryBytes K) [] E0 (tCons (tVar 3) tNil))) rfl sc_line_line.nd (pi_list (pe_fld (pv 0) rfl)) (blkOk_by (own := [("entry", 3)]) (N := N_line_line) (sc := defScope s_line_line) (by decide +kernel)) (fun _ _ _ _ _ => (pg_name (i := 3) sc_line_line.nd rfl (Or.inl rfl))) (fun _ _ _ _ _ => pts_nil) (fun _ _ _ _ _ => (pe_c (ok_entry_bytes T) hr (pa_cons (pv 3) pa_nil)))) (pa_cons pe_str pa_nil))) pa_nil)))
      (pss_one (ps_ret (pe_c (ok_sentence_line T) hr (pa_cons (pv 2) pa_nil))))))))), ?_⟩
  obtain ⟨x0, rfl, h⟩ := h
  obtain ⟨a, n1, n2, m, es, rfl, ⟨dx, xa, ya, ea, eas, k1, k2, k3, k4, k5⟩, wf, he, h⟩ := h
  have wm : m ≤ 100000 := wf.2.2.2.1
  have tl := told_text_len wf
  have tl : (toldText (.line n1 n2 m es)).length ≤ 4000 + es.length * 5802 := tl
  have lm := dig_len (n := m) (by omega)
  have i1 : StrIs (Str.empty ++ Str.ofString "measures ") (ascii "measures ") := st0.app st_lit
  have i2 := i1.app (st_int m)
  have l2 : (ascii "measures " ++ digits m).length ≤ 4000 := by
    rw [List.length_append, show (ascii "measures ").length = 9 from rfl]
    omega
  refine ⟨_, rfl, i1.ok (by decide), _, rfl, a, _, dx, _, _, rfl, k1, T.c_Line, T.a_Line_measure, rfl, .inr ⟨_, rfl, log_ok (by show m ≤ _; omega), _, rfl, i2.ok (by omega), _, rfl, _, _, rfl, i2, by omega, fun pm H1 hpm s1 fm => ?_⟩⟩
  refine ⟨_, rfl, _, _, rfl, st_lit (s := "line"), by decide, fun p1 H2 hp1 s2 f1 => ?_⟩
  refine ⟨_, rfl, a, _, dx, _, _, rfl, s2 _ _ (s1 _ _ k1), T.c_Line, T.a_Line_first, rfl, _, rfl, _, _, rfl, st_lit (s := "to"), by decide, fun p2 H3 hp2 s3 f2 => ?_⟩
  have s13 : Same H H3 := (s1.trans s2).trans s3
  refine ⟨_, rfl, a, _, dx, _, _, rfl, s13 _ _ k1, T.c_Line, T.a_Line_second, rfl, _, rfl, (by show 5 ≤ sizeLine; decide), fun l hl => ?_⟩
  have hl0 : H l = none := s13.free hl
  have s4 : Same H3 (upd H3 l (.lst (rV [p1, xa, p2, ya, pm]))) := same_upd hl
  have s14 := s13.trans s4
  have rows : ∀ {H' : Hp}, Same H3 H' → All2 (IsRow H') [p1, xa, p2, ya] [ascii "line", n1, ascii "to", n2] := fun s => .cons (.inl (s _ _ (s3 _ _ f1))) (.cons (.inr (s _ _ (s13 _ _ k2))) (.cons (.inl (s _ _ f2)) (.cons (.inr (s _ _ (s13 _ _ k3))) .nil)))
  have fm3 : H3 pm = some (.lst (bV (ascii "measures " ++ digits m))) := s3 _ _ (s2 _ _ fm)
  refine ⟨_, rfl, a, _, dx, _, _, rfl, s14 _ _ k1, T.c_Line, T.a_Line_entries, rfl, _, .inl ⟨_, .of (s14 _ _ k4), rfl⟩, ?_⟩
  rw [rV_empty, all2_empty k5]
  cases es with
  | nil =>
    refine iteT ⟨_, rfl, _, rfl, l, [p1, xa, p2, ya, pm], [ascii "line", n1, ascii "to", n2, ascii "measures " ++ digits m], rfl, upd_same, (rows s4).snoc (.inl (s4 _ _ fm3)), by show 5 ≤ 100000; decide, ?_, ?_⟩
    · rw [line_text0, List.length_append] at tl
      have : ([] : List LsChain.Entry).length = 0 := rfl
      omega
    · rw [line_text0] at h
      exact h.mono s14
  | cons e es =>
    rw [line_text1] at h tl
    refine iteF ⟨_, rfl, _, rfl, _, _, rfl, st_lit (s := ":"), by decide, fun p3 H4 hp3 s5 f3 => ?_⟩
    have i4 : upd H3 l (.lst (rV [p1, xa, p2, ya, pm])) l = some (.lst (rV [p1, xa, p2, ya, pm])) := upd_same
    refine cat_ret (s := ascii "measures " ++ digits m) (t := ascii ":") (fun q H5 hq s6 f4 => ?_) (Same.refl _) (s5 _ _ (s4 _ _ fm3)) f3 (by rw [show (ascii ":").length = 1 from rfl]; omega)
    have s15 : Same H H5 := (s14.trans s5).trans s6
    have hl5 : H5 l = some (.lst (rV [p1, xa, p2, ya, pm])) := s6 _ _ (s5 _ _ i4)
    refine ⟨_, rfl, l, _, 4, 4, rfl, rfl, hl5, rfl, ?_⟩
    have e6 : (rV [p1, xa, p2, ya, pm]).set 4 (V.ref q) = rV [p1, xa, p2, ya, q] := rfl
    rw [e6]
    have s16 : Same H (upd H5 l (.lst (rV [p1, xa, p2, ya, q]))) := same_mut s15 hl0
    -- from H3 on all but l stands
    have s36 : Same H3 (upd H5 l (.lst (rV [p1, xa, p2, ya, q]))) := same_mut ((s4.trans s5).trans s6) hl
    have f6 : upd H5 l (.lst (rV [p1, xa, p2, ya, q])) q = some (.lst (bV (ascii "measures " ++ digits m ++ ascii ":"))) := by
      rw [upd_ne (fun z => by rw [z] at hq; rw [s5 _ _ i4] at hq; cases hq)]
      exact f4
    generalize hH6 : upd H5 l (.lst (rV [p1, xa, p2, ya, q])) = H6 at s16 s36 f6 ⊢
    have hl6 : H6 l = some (.lst (rV [p1, xa, p2, ya, q])) := by rw [← hH6]; exact upd_same
    refine ⟨_, rfl, .inl ⟨rfl, _, SqL.of hl6⟩, _, rfl, a, _, dx, _, _, rfl, s16 _ _ k1, T.c_Line, T.a_Line_entries, rfl, ea, rfl, ⟨_, .of (s16 _ _ k4)⟩, fun D hD => ?_⟩
    refine lc_list (K := K) (a := ea) (xs := rV eas) (fun j H'' => ∃ F2 ps, Gr H6 H6 H'' F2 ∧ Own H6 H'' F2 D (.lst (rV ps)) ∧ All2 (IsRow F2) ps (((e :: es).take j).map entryText)) ⟨H6, [], (Gr.refl (Same.refl H6)).add hD, Own.first (Gr.refl (Same.refl H6)) hD, .nil⟩ ?_ ?_ ?_
    · rintro j H'' _ ⟨F2, ps, g2, o2, hq2⟩
      exact .of (g2.keep _ _ (s16 _ _ k4))
    · rintro j y H'' hy ⟨F2, ps, g2, o2, hq2⟩
      obtain ⟨r, hr1, rfl⟩ := rV_get hy
      obtain ⟨en, hen, hE⟩ := k5.get hr1
      have hen : (e :: es)[j]? = some en := hen
      refine ⟨rfl, yes ?_⟩
      refine iteT ⟨_, rfl, _, rfl, r, en, m, rfl, (hE.mono s16).mono g2.keep, wf.2.2.2.2 _ (List.mem_of_getElem? hen), wm, fun p H7 hp s7 f7 => ?_⟩
      have g3 : Gr H'' F2 H7 (upd F2 p (.lst (bV (entryText en)))) := Gr.got g2.sub hp s7 f7
      have o3 := o2.go g3
      refine ⟨_, o3.at_, ?_, _, ps ++ [p], (g2.trans g3).own o3, ?_, ?_⟩
      · rw [rV_len, hq2.len, List.length_map, List.length_take]
        exact size_lt (by omega)
      · rw [rV_snoc]
        exact o3.set
      · rw [take_snoc hen, List.map_append]
        exact (hq2.imp fun _ _ => IsRow.mono g3.fr).snoc (.inl upd_same)
    · rintro H7 ⟨F2, ps, g2, o2, hq2⟩
      have le : (rV eas).length = (e :: es).length := by rw [rV_len, k5.len]
      rw [le, List.take_length] at hq2
      have cl : (joinB [44, 32] ((e :: es).map entryText)).length ≤ (e :: es).length * 5802 := by
        rw [joinB_commas]
        have := commas_len (l := (e :: es).map entryText) fun x hx => by
          obtain ⟨u, hu, rfl⟩ := List.mem_map.mp hx
          exact entry_len (wf.2.2.2.2 u hu) wm
        rwa [List.length_map] at this
      refine ⟨_, _, rfl, D, _, ps, _, [44, 32], rfl, rfl, o2.at_, hq2.imp fun _ _ => IsRow.mono g2.sub, st_lit (s := ", "), by decide, ?_, ?_, fun pj H8 hpj s8 f8 => ?_⟩
      · rw [List.length_map]
        omega
      · omega
      have s68 : Same H6 H8 := g2.keep.trans s8
      refine ⟨l, _, _, rfl, rfl, s68 _ _ hl6, (by show 5 < sizeLine; decide), ?_⟩
      have e9 : rV [p1, xa, p2, ya, q] ++ [V.ref pj] = rV [p1, xa, p2, ya, q, pj] := rfl
      rw [e9]
      have s39 : Same H3 (upd H8 l (.lst (rV [p1, xa, p2, ya, q, pj]))) := same_mut (s36.trans s68) hl
      have nq : q ≠ l := fun z => by rw [z] at f6; rw [hl6] at f6; cases f6
      have nj : pj ≠ l := fun z => by rw [z] at hpj; rw [g2.keep _ _ hl6] at hpj; cases hpj
      refine ⟨_, rfl, _, rfl, l, [p1, xa, p2, ya, q, pj], [ascii "line", n1, ascii "to", n2, ascii "measures " ++ digits m ++ ascii ":", joinB [44, 32] ((e :: es).map entryText)], rfl, upd_same, ((rows s39).snoc (.inl ?_)).snoc (.inl ?_), by show 6 ≤ 100000; decide, ?_, ?_⟩
      · rw [upd_ne nq]
        exact s68 _ _ f6
      · rw [upd_ne nj]
        exact f8
      · rw [List.length_append] at tl
        omega
      · exact h.mono (s13.trans s39)
end
end CB
end
section
set_option Elab.async false
set_option linter.all false
set_option maxRecDepth 100000
set_option maxHeartbeats 4000000
namespace CB
open PySem PySem.Spec PyProof.Rows L2
open LsText (Bytes ascii digits spaced)
open LsChain (Told Mark Book commas entryText besideText toldText unitText)
section
variable {P : Program} {w : World} {K : PySem.W.Frag} {mg : Str → Option Value} {base : Heap}
theorem text_is (b : Book) : b.text = unitText b.unit ++ b.told.flatMap toldText := rfl
theorem ok_book_bytes (T : Txt K mg) : Ok P w K mg base CX0 5 ("book_bytes", none) ["book"] (spBookB K) := by
  refine mk_ok T 61 rfl sc_book_bytes T.g_book_bytes (fun _ _ _ _ _ _ us hl => match us, hl with | [_], _ => rfl) len1 (fun cdv A outer s H vs Q E hr h => ?_)
  refine ⟨_, (pss_cons (ps_set (i := 1) sc_book_bytes.nd rfl (Or.inl rfl) (pe_lst pa_nil))
      (pss_cons (ps_if (pt_val (pe_c (ok_has_unit T) hr (pa_cons (pv 0) pa_nil))) (pss_one (ps_expr (pe_bm PySem.F.plainAttrs_list PySem.F.slot_list_extend PySem.F.type_list_extend mt_extend (pv 1) (pa_cons (pe_c (ok_sentence_line T) hr (pa_cons (pe_lst (pa_cons (pe_c (ok_bytes_of T) hr (pa_cons (pe_joined (PJ.cons pe_str (PJ.cons (pe_fmt (pe_fld (pv 0) rfl)) (PJ.cons pe_str (PJ.cons (pe_fmt (pe_fld (pv 0) rfl)) PJ.nil))))) pa_nil)) pa_nil)) pa_nil)) pa_nil)))) pss_nil)
      (pss_cons (ps_for PassesOwn.never rfl (pi_list (pe_fld (pv 0) rfl)) (pg_name (i := 2) sc_book_bytes.nd rfl (Or.inl rfl))
      (pss_one (ps_if (pt_val (pe_callB call_isi (by rfl) T.n_isinstance (by decide +kernel) (pa_cons (pv 2) (pa_cons (pe_gref T.g_Known) pa_nil)))) (pss_one (ps_expr (pe_bm PySem.F.plainAttrs_list PySem.F.slot_list_extend PySem.F.type_list_extend mt_extend (pv 1) (pa_cons (pe_c (ok_known_line T) hr (pa_cons (pv 2) pa_nil)) pa_nil)))) (pss_one (ps_expr (pe_bm PySem.F.plainAttrs_list PySem.F.slot_list_extend PySem.F.type_list_extend mt_extend (pv 1) (pa_cons (pe_c (ok_line_line T) hr (pa_cons (pv 2) pa_nil)) pa_nil)))))))
      (pss_one (ps_ret (pv 1)))))), ?_⟩
  obtain ⟨x0, rfl, h⟩ := h
  obtain ⟨a, b, rfl, hb, h⟩ := h
  obtain ⟨wf, bx, sa, sas, b1, b2, b3⟩ := id hb
  have ul := unit_len wf
  have tl := told_len4 wf
  refine ⟨(by show 0 ≤ sizeLine; decide), fun wl hwl => ?_⟩
  have s0 : Same H (upd H wl (.lst [])) := same_upd hwl
  have loop : ∀ (H2 : Hp) (v : Option V), Same H H2 → H2 wl = some (.lst (bV (unitText b.unit))) →
      tSeq (tFor (iList K (tFld K (tVar 0) "sentences")) (gName 2) (tIfS (tB (tCB (rIsi K) (tCons (tVar 2) (tCons (tC (.ref (He.ga K "Known"))) tNil)))) (tDrop (tBM K "list" rExtend (tVar 1) (tCons (tCall (spKnownL K) [] E0 (tCons (tVar 2) tNil)) tNil))) (tDrop (tBM K "list" rExtend (tVar 1) (tCons (tCall (spLineL K) [] E0 (tCons (tVar 2) tNil)) tNil))))) (tRet (tVar 1)) { nx := fun _ H' => Q .non H', rt := Q } [some (.ref a), some (.ref wl), v] H2 := fun H2 v s2 w2 => by
    refine ⟨_, rfl, a, _, bx, _, _, rfl, s2 _ _ b1, T.c_Book, T.a_Book_sentences, rfl, sa, rfl, ⟨_, .of (s2 _ _ b2)⟩, for_list (K := K) (a := sa) (xs := rV sas) (fun i σ H' => ∃ v, σ = [some (.ref a), some (.ref wl), v] ∧ Same H H' ∧ H' wl = some (.lst (bV (unitText b.unit ++ (b.told.take i).flatMap toldText)))) ⟨v, rfl, s2, ?_⟩ ?_ ?_ ?_⟩
    · rw [List.take_zero, List.flatMap_nil, List.append_nil]
      exact w2
    · rintro i σ H' _ ⟨v, rfl, s, _⟩
      exact .of (s _ _ b2)
    · rintro i x σ H' hx ⟨v, rfl, s, w⟩
      obtain ⟨q, hq, rfl⟩ := rV_get hx
      obtain ⟨t, ht, hT⟩ := b3.get hq
      have wt := wf.told _ (List.mem_of_getElem? ht)
      have fl := flat_take_le (f := toldText) b.told (i + 1)
      rw [flat_snoc ht, List.length_append] at fl
      have size : (bV (unitText b.unit ++ (b.told.take i).flatMap toldText)).length + (bV (toldText t)).length ≤ sizeLine := by
        rw [bV_len, bV_len, List.length_append]
        exact size_ok (by omega)
      refine ⟨_, rfl, ?_⟩
      dsimp only [tCons, tC, tNil]
      refine told_isKnown T (hT.mono s) ?_
      refine ⟨_, rfl, ?_⟩
      cases t with
      | known n i1 j1 =>
        refine iteT ⟨_, rfl, .inl ⟨rfl, _, SqL.of w⟩, _, rfl, _, rfl, q, n, i1, j1, rfl, IsKno.mono s hT, wt, fun p H3 hp s3 f3 => ?_⟩
        refine ⟨wl, p, _, _, rfl, rfl, s3 _ _ w, f3, size, ?_⟩
        refine ⟨_, rfl, same_mut (s.trans s3) hwl, ?_⟩
        rw [upd_same, bV_app, flat_snoc ht, List.append_assoc]
      | line n1 n2 m es =>
        have le : es.length ≤ 512 := line_entries wf (l := (n1, n2, m, es)) (List.mem_filterMap.mpr ⟨_, List.mem_of_getElem? ht, rfl⟩)
        refine iteF ⟨_, rfl, .inl ⟨rfl, _, SqL.of w⟩, _, rfl, _, rfl, q, n1, n2, m, es, rfl, IsLin.mono s hT, wt, le, fun p H3 hp s3 f3 => ?_⟩
        refine ⟨wl, p, _, _, rfl, rfl, s3 _ _ w, f3, size, ?_⟩
        refine ⟨_, rfl, same_mut (s.trans s3) hwl, ?_⟩
        rw [upd_same, bV_app, flat_snoc ht, List.append_assoc]
    · rintro σ H' ⟨v, rfl, s, w⟩
      rw [rV_len, b3.len, List.take_length, ← text_is] at w
      exact ⟨_, rfl, h wl H' hwl s w⟩
  refine ⟨_, rfl, _, rfl, a, b, rfl, hb.mono s0, _, rfl, ?_⟩
  cases z : b.unit with
  | none =>
    rw [show hasUnit b = false by unfold hasUnit; rw [z]; rfl]
    refine iteF (loop _ _ s0 ?_)
    rw [upd_same, z]
    rfl
  | some u =>
    rw [show hasUnit b = true by unfold hasUnit; rw [z]; rfl]
    have wu := wf.unit u z
    have lu1 := dig_len (n := u.1) (by omega)
    have lu2 := dig_len (n := u.2) (by omega)
    have i1 : StrIs (Str.empty ++ Str.ofString "unit ") (ascii "unit ") := st0.app st_lit
    have i2 := i1.app (st_int u.1)
    have i3 := i2.app (st_lit (s := " / "))
    have i4 := i3.app (st_int u.2)
    have l4 : (ascii "unit " ++ digits u.1 ++ ascii " / " ++ digits u.2).length ≤ 4000 := by
      simp only [List.length_append, show (ascii "unit ").length = 5 from rfl, show (ascii " / ").length = 3 from rfl]
      omega
    have l3 : (ascii "unit " ++ digits u.1 ++ ascii " / ").length ≤ 4000 := by
      rw [List.length_append] at l4
      omega
    have l2 : (ascii "unit " ++ digits u.1).length ≤ 4000 := by
      rw [List.length_append] at l3
      omega
    have m1 : unM b.unit = u.1 := by rw [z]; rfl
    have m2 : unL b.unit = u.2 := by rw [z]; rfl
    have hw0 : upd H wl (.lst []) wl = some (.lst []) := upd_same
    refine iteT ⟨_, rfl, .inl ⟨rfl, _, SqL.of hw0⟩, _, rfl, i1.ok (by decide), _, rfl, a, _, bx, _, _, rfl, s0 _ _ b1, T.c_Book, T.a_Book_metres, rfl, .inr ⟨(u.1 : Int), by rw [m1], log_ok (by omega), _, rfl, i2.ok (by omega), _, rfl, i3.ok (by omega), ?_⟩⟩
    refine ⟨_, rfl, a, _, bx, _, _, rfl, s0 _ _ b1, T.c_Book, T.a_Book_links, rfl, .inr ⟨(u.2 : Int), by rw [m2], log_ok (by omega), _, rfl, i4.ok (by omega), _, rfl, _, _, rfl, i4, by omega, fun p1 H1 hp1 s1 f1 => ?_⟩⟩
    refine ⟨(by show 1 ≤ sizeLine; decide), fun l hl => ?_⟩
    have s2 : Same H1 (upd H1 l (.lst (rV [p1]))) := same_upd hl
    refine ⟨_, rfl, l, [p1], [ascii "unit " ++ digits u.1 ++ ascii " / " ++ digits u.2], rfl, upd_same, .cons (.inl (s2 _ _ f1)) .nil, by show 1 ≤ 100000; decide, by show (ascii "unit " ++ digits u.1 ++ ascii " / " ++ digits u.2).length ≤ _; omega, ?_⟩
    rw [← unit_text]
    intro pq H3 hpq s3 f3
    have w3 : H3 wl = some (.lst []) := s3 _ _ (s2 _ _ (s1 _ _ hw0))
    refine ⟨wl, pq, _, _, rfl, rfl, w3, f3, ?_, ?_⟩
    · rw [bV_len, ← z]
      exact size_ok (by show 0 + _ ≤ _; omega)
    · refine loop _ _ (same_mut (((s0.trans s1).trans s2).trans s3) hwl) ?_
      rw [upd_same, List.nil_append, z]
end
end CB
end
section
set_option Elab.async false
set_option linter.all false
set_option maxRecDepth 100000
set_option maxHeartbeats 4000000
namespace CB
section
open PySem PySem.W PySem.Calls PyProof.Rows PySem.HandSPX
def fB (q1 q2 q3 q4 q5 q6 q7 q8 : Pos) : List Stmt := [.Assign [.Attribute (.Name "self" q1) "kind" q2] (.Name "kind" q3) q4, .Assign [.Attribute (.Name "self" q5) "at" q6] (.Name "at" q7) q8]
theorem fault_body : ∃ q1 q2 q3 q4 q5 q6 q7 q8, L2.defBody s_Fault___init__ = fB q1 q2 q3 q4 q5 q6 q7 q8 := ⟨_, _, _, _, _, _, _, _, rfl⟩
theorem kept_but {K : Frag} {h h' : Heap} {x : Addr} (X : K.In h) (hx : K.lookup x = none) (k : ∀ b o, b ≠ x → h.get? b = some o → h'.get? b = some o) : K.In h' := fun a o e =>
  k a o (fun z => by rw [z, hx] at e; cases e) (X a o e)
theorem ldC {M : Model} {s : Shared} {name : Str} {scope : Scope} {L a : Addr} {cd : Value} {m : Str → Option Value} {x : Str} {pos : Pos} {v : Value} {Q : Value → Shared → Prop} {A : Around} {E : Value → Shared → Prop} (hn : s.heap.Ns L m) (hv : m x = some v) (h : Q v s)
    (hk : scope.kind = .function := by rfl) (hl : (envOfC name scope L a cd).kindOf x = some .local := by rfl) (hd : (x == ("__debug__" : Str)) = false := by decide) :
    wpAny M A (eval (.Name x pos) (envOfC name scope L a cd)) Q E s := wpAny_Name (wpAny_loadName_local hk hl hn hv h) hd
/-- the two fields of a Fault -/
def fNs (v1 v2 : Value) : Str → Option Value := fun y => if y = "at" then some v2 else if y = "kind" then some v1 else none
structure InitEnd (h h' : Heap) (x C dx t1 : Addr) (v1 v2 : Value) : Prop where
  keep : ∀ b o, b ≠ x → h.get? b = some o → h'.get? b = some o
  obj : h'.get? x = some { cls := .ref C, dict := some dx, data := .fields #[.ref t1, .none, .none, .none, .bool false, .none] }
  dbig : h.objs.size ≤ dx
  dne : dx ≠ x
  ns : h'.Ns1 dx (fNs v1 v2)
structure OwnMade (h h' : Heap) (e C d : Addr) (v1 v2 : Value) : Prop where
  keep : ∀ b o, h.get? b = some o → h'.get? b = some o
  new : h.objs.size ≤ e
  obj : ∃ oe vs, h'.get? e = some oe ∧ oe.cls = .ref C ∧ oe.dict = some d ∧ oe.data = .fields vs ∧ vs[1]? = some .none
  dbig : h.objs.size ≤ d
  dne : d ≠ e
  ns : h'.Ns1 d (fNs v1 v2)
abbrev ftail : List Value := [.type "Exception", .type "BaseException", .type "object"]
theorem xExc_ok {K : Frag} {C : Addr} (h : xExc K C = true) : ∃ nm q N bs sn sub ab col dd k0 k1 k2 k3 k5, K.lookup C = some (excClassObj nm q C N bs ftail true sn sub ab col dd k0 k1 k2 k3 k5 "Exception.__new__") := by
  unfold xExc at h
  split at h
  · rename_i t dd cd sl ho
    obtain ⟨h1, g1⟩ := He.ba h
    obtain ⟨h2, g2⟩ := He.ba g1
    obtain ⟨h3, g3⟩ := He.ba g2
    obtain ⟨h4, g4⟩ := He.ba g3
    split at g4
    · rename_i k0 k1 k2 k3 n k5 hs
      have hsl : sl = #[k0, k1, k2, k3, some (.builtin n), k5] := by
        obtain ⟨l⟩ := sl
        simp only at hs
        rw [hs]
      obtain ⟨nm, bs, mro, ns, qn, hd, sn, sb, ab, col, del⟩ := cd
      have h2 := of_decide_eq_true h2
      have h1 := of_decide_eq_true h1
      have h5 := of_decide_eq_true g4
      dsimp only at h2 h3 h4
      have h3 : del = false := by cases del <;> first | rfl | cases h3
      subst hsl h1 h2 h3 h4 h5
      exact ⟨nm, qn, ns, bs, sn, sb, ab, col, dd, k0, k1, k2, k3, k5, ho⟩
    · cases g4
  · cases h
structure FaultT (K : Frag) (C : Addr) : Prop where
  cls : ∃ nm q N bs sn sub ab col dd k0 k1 k2 k3 k5, K.lookup C = some (excClassObj nm q C N bs ftail true sn sub ab col dd k0 k1 k2 k3 k5 "Exception.__new__")
  sa : findIn K (.ref C) "__setattr__" = some (some (.builtin "object.__setattr__"))
  ga : findIn K (.ref C) "__getattribute__" = some (some (.builtin "BaseException.__getattribute__"))
  gg : findIn K (.ref C) "__getattr__" = some none
  kC : keepIn K (.ref C) = true
  exC : subIn K (.ref C) (.type "BaseException") = some true
  tyC : typeIn K (.ref C) = some (.type "type")
  hdC : hasDictIn K C = true
  te : exmOne K (.ref C) (.ref C) = some true
theorem xFault_ok {K : Frag} {C : Addr} (h : xFault K C = true) : FaultT K C := by
  obtain ⟨h1, h⟩ := He.ba h
  obtain ⟨h2, h⟩ := He.ba h
  obtain ⟨h3, h⟩ := He.ba h
  obtain ⟨h4, h⟩ := He.ba h
  obtain ⟨h5, h⟩ := He.ba h
  obtain ⟨h6, h⟩ := He.ba h
  obtain ⟨h7, h⟩ := He.ba h
  obtain ⟨h8, h⟩ := He.ba h
  exact ⟨xExc_ok h1, He.eqO_ok h2, He.eqO_ok h3, He.eqO_ok h4, h5, of_decide_eq_true h6, of_decide_eq_true h7, h8, of_decide_eq_true h⟩
section
variable {K : Frag} {mg : Str → Option Value}
theorem Txt.fault (T : Txt K mg) : FaultT K (He.ga K "Fault") := xFault_ok (He.ba T.y).1
variable {prog : Program} {w : World} {A : Around} {E : Value → Shared → Prop} {R : Result → Shared → Prop} {s : Shared}
theorem fault_init (T : Txt K mg) {x t0 : Addr} {v1 v2 : Value} (X : K.In s.heap) (hlim : s.heap.NoLimit) (hx : s.heap.get? x = some (excO (He.ga K "Fault") t0)) (hnx : K.lookup x = none) (hroom : A.depth < recursionLimit)
    (hq : ∀ h' tk dx, InitEnd s.heap h' x (He.ga K "Fault") dx t0 v1 v2 → R (.ok (.ret .none)) { s with heap := h', toks := tk }) :
    codeAny (model prog w) A (.call (.ref (He.fAd K ("Fault", some "__init__"))) ⟨[.ref x, v1, v2], []⟩) R s := by
  obtain ⟨fd, F⟩ := T.c.def_ 62 rfl
  obtain ⟨oc, od, dV, kV, doc, pm, an, cdv, ct, osl, rfl, ho, hcd, hD, _⟩ := F.ex
  have eD : dV = .none := by
    rcases hD with ⟨_, e⟩ | ⟨e, _⟩
    · exact e
    · exact absurd rfl e
  subst eD
  obtain ⟨q1, q2, q3, q4, q5, q6, q7, q8, eb⟩ := fault_body
  obtain ⟨nm, q, N, bs, sn, sub, ab, col, dd, k0, k1, k2, k3, k5, hC⟩ := T.fault.cls
  have hcl : clsIn K (He.ga K "Fault") = some { name := nm, bases := bs, mro := .ref (He.ga K "Fault") :: ftail, ns := N, qualname := q, hasDict := true, slotNames := sn, subclasses := sub, abstract := ab, collection := col, hasDel := false } := by unfold clsIn; rw [hC] <;> rfl
  refine Att.call_fn (binds := [("self", .ref x), ("kind", v1), ("at", v2)]) X hlim ho hcd hroom (BindsTo.of_eq (by first | rfl | with_unfolding_all rfl)) (by first | rfl | decide | with_unfolding_all rfl) (fun s₁ IC => ?_) rfl rfl rfl
  obtain ⟨h₁, tk₁, rfl⟩ := IC.toInCall.same
  have k : ∀ b o, s.heap.get? b = some o → h₁.get? b = some o := IC.toInCall.keep
  have hn := IC.toInCall.ns
  have hxL : s.heap.objs.size ≠ x := Nat.ne_of_gt (Heap.lt_size hx)
  have X₁ : K.In h₁ := X.keeps k
  have hx₁ := k _ _ hx
  show wpAny _ _ (execs (L2.defBody s_Fault___init__) _) _ _ _
  rw [eb]
  show wpAny _ _ (execs _ _) _ _ _
  refine wpAny_execs_cons (plainObj_wpAny_Assign_Attribute ?_)
  refine ldC (v := v1) hn (by first | rfl | with_unfolding_all rfl | kernel_rfl) (ldC (v := .ref x) hn (by first | rfl | with_unfolding_all rfl | kernel_rfl) ?_)
  refine set_plain X₁ (ox := excO (He.ga K "Fault") t0) (od := none) ⟨hx₁, rfl, rfl, trivial⟩ T.fault.sa ?_
  refine ESX.osa_new X₁ hx₁ hcl rfl rfl T.a_Fault_kind (fun h₃ tk₃ dx k₃ dn dne hx₃ hn₃ => ?_)
  have X₃ : K.In h₃ := kept_but X₁ hnx k₃
  have hnL := hn.at (h' := h₃) fun o e => k₃ _ _ hxL e
  have hns3 : h₃.Ns1 dx (fun y => if y = "kind" then some v1 else none) := hn₃
  have hw3 := Within.cons ("kind" : Str) v1 Within.nil
  obtain ⟨oD, esD, epD, hoD, hdD, _⟩ := hns3.count hw3
  show wpAny _ _ (execs _ _) _ _ _
  refine wpAny_execs_cons (plainObj_wpAny_Assign_Attribute ?_)
  refine ldC (v := v2) hnL (by first | rfl | with_unfolding_all rfl | kernel_rfl) (ldC (v := .ref x) hnL (by first | rfl | with_unfolding_all rfl | kernel_rfl) ?_)
  refine set_plain X₃ (ox := { cls := .ref (He.ga K "Fault"), dict := some dx, data := .fields #[.ref t0, .none, .none, .none, .bool false, .none] }) (od := some oD) ⟨hx₃, rfl, rfl, hoD⟩ T.fault.sa ?_
  refine ESX.osa_old X₃ hx₃ hns3 hw3 (by decide) hcl rfl rfl T.a_Fault_at (fun h₅ tk₅ k₅ hn₅ => ?_)
  show wpAny _ _ (execs _ _) _ _ _
  have z : s.heap.objs.size < h₁.objs.size := hn.lt
  refine wpAny_execs_nil (hq h₅ tk₅ dx ⟨fun b o hb e => ?_, ?_, Nat.le_of_lt (Nat.lt_of_lt_of_le z dn), dne, hn₅⟩)
  · have e1 := k b o e
    have e3 := k₃ b o hb e1
    exact k₅ b o (fun y => by
      rw [y] at e1
      exact absurd (Heap.lt_size e1) (Nat.not_lt_of_le dn)) e3
  · exact k₅ x _ (Ne.symm dne) hx₃
theorem fault_made (T : Txt K mg) {v1 v2 : Value} (X : K.In s.heap) (hlim : s.heap.NoLimit) (hroom : A.depth + 1 < recursionLimit)
    (hq : ∀ h' tk e d, OwnMade s.heap h' e (He.ga K "Fault") d v1 v2 → R (.ok (.ret (.ref e))) { s with heap := h', toks := tk }) :
    codeAny (model prog w) A (.call (.ref (He.ga K "Fault")) ⟨[v1, v2], []⟩) R s := by
  obtain ⟨nm, q, N, bs, sn, sub, ab, col, dd, k0, k1, k2, k3, k5, hC⟩ := T.fault.cls
  have M := T.h_Fault
  obtain ⟨hp, g, dr, tk, os⟩ := s
  have k : ∀ b o, hp.get? b = some o → ((hp.push (kdv_tup [v1, v2])).push (excO (He.ga K "Fault") hp.objs.size)).get? b = some o := fun b o e => Heap.get?_push_of_some _ (Heap.get?_push_of_some _ e)
  have hget : ((hp.push (kdv_tup [v1, v2])).push (excO (He.ga K "Fault") hp.objs.size)).get? (hp.objs.size + 1) = some (excO (He.ga K "Fault") hp.objs.size) := by heap_get
  have hnx : K.lookup (hp.objs.size + 1) = none := by
    cases e : K.lookup (hp.objs.size + 1) with
    | none => rfl
    | some o =>
      have z : hp.get? (hp.objs.size + 1) = some o := X _ _ e
      exact absurd (Nat.lt_of_succ_lt (Heap.lt_size z)) (Nat.lt_irrefl _)
  have tC : typeIn K (.ref (He.fAd K ("Fault", some "__init__"))) = some (.type "function") := by
    have q := M.fn
    exact beq_iff_eq.mp q
  refine call_own F.excBase_Exception (fun X => rfl) (X _ _ hC) (looks_findIn X M.at_) (fun self => bind_fn X self tC) (by rw [sizeLine_eq]; exact (by decide : 2 ≤ 16777216)) ?_
  refine fault_init (s := ⟨(hp.push (kdv_tup [v1, v2])).push (excO (He.ga K "Fault") hp.objs.size), g, dr, tk, os⟩) T (X.keeps k) (hlim.keeps k) hget hnx ?_ fun h' tk' dx ⟨k', hx, dn, dne, hns⟩ => ?_
  · show A.depth + 1 < recursionLimit
    exact hroom
  · have old : ∀ b o, hp.get? b = some o → h'.get? b = some o := fun b o e => k' b o (Nat.ne_of_lt (Nat.lt_succ_of_lt (Heap.lt_size e))) (k b o e)
    have z : hp.objs.size + 1 + 1 ≤ dx := by
      first
        | (simpa only [Heap.size_push] using dn)
        | exact dn
        | (have q := dn; rw [Heap.size_push, Heap.size_push] at q; exact q)
    exact ⟨rfl, hq h' tk' (hp.objs.size + 1) dx ⟨old, Nat.le_succ _, ⟨_, _, hx, rfl, rfl, rfl, rfl⟩, Nat.le_trans (Nat.le_trans (Nat.le_succ _) (Nat.le_succ _)) z, dne, hns⟩⟩
end
end
section
open PySem PySem.Spec PyProof.Rows L2
/-- what a Fault carries -/
def fFs (a b : V) : List (Str × V) := [("at", b), ("kind", a)]
theorem relO_fault {a b : V} {a' b' : Value} (ra : RelV a a') (rb : RelV b b') (f : Str) : RelO ((fFs a b).lookup f) (fNs a' b' f) := by
  unfold fFs fNs
  by_cases h1 : f = "at"
  · subst h1
    rw [if_pos rfl]
    have q : List.lookup ("at" : Str) [(("at" : Str), b), ("kind", a)] = some b := by simp [List.lookup]
    rw [q]
    exact rb
  · rw [if_neg h1]
    have q1 : (f == ("at" : Str)) = false := by simpa using h1
    by_cases h2 : f = "kind"
    · subst h2
      rw [if_pos rfl]
      have q : List.lookup ("kind" : Str) [(("at" : Str), b), ("kind", a)] = some a := by simp [List.lookup, q1]
      rw [q]
      exact ra
    · rw [if_neg h2]
      have q2 : (f == ("kind" : Str)) = false := by simpa using h2
      have q : List.lookup f [(("at" : Str), b), ("kind", a)] = none := by simp [List.lookup, q1, q2]
      rw [q]
      trivial
variable {X : Cx}
/-- Fault(kind, at) -/
def tMkF (C : Addr) (ta : TA) : L2.St → Hp → XK → Prop := fun σ H Q => ta σ H fun vs H1 => ∃ a b, vs = [a, b] ∧ ∀ d, H1 d = none → Q (.ref C) (some d) (upd H1 d (.xd (fFs a b)))
theorem pmk_fault {e1 e2 : Expr} {ta : TA} {p pos : Pos} {k : Nat} (T : Txt X.K X.mg) (hr : Room k X.A) (ha : PA X [e1, e2] ta) (hg : Gl X "Fault" := by rfl)
    (he : starEach (e1 :: [e2]) X.env = (false, eval e1 X.env) :: starEach [e2] X.env := by rfl) (hpl : (backTo pos (starEach [e2] X.env)).any (·.1) = false := by rfl) :
    PMk X (.Call (.Name "Fault" p) [e1, e2] [] pos) (tMkF (He.ga X.K "Fault") ta) := by
  intro pins s σ H Q I h
  refine wpAny_Call_Name_kw (ld_glob I hg T.g_Fault ?_)
  refine PySem.W.callWith_K (h₀ := X.base) I.ok.mod.kin T.fault.kC (thn (ha.run pos pins s σ H _ I h) fun us s1 hh => ?_) he hpl
  obtain ⟨vs, H1, I1, r1, v1, v2, ev, q1⟩ := hh
  subst ev
  refine ⟨I1.kIn, ?_⟩
  cases r1 with
  | cons rv1 rn =>
    cases rn with
    | cons rv2 rn2 =>
      cases rn2
      rename_i v1' v2'
      show wpAny _ _ (call (.ref (He.ga X.K "Fault")) [v1', v2']) _ _ _
      have hlim := I1.nolimit
      obtain ⟨hp, g, dr, tk, os⟩ := s1
      refine wpAny_call (fault_made T I1.kIn hlim (by have := hr.dp; omega) fun h' tk' e d M => ?_)
      show MkP X pins σ Q (.ref e) ⟨h', g, dr, tk', os⟩
      obtain ⟨oe, fv, hoe, hc, hd, hdat, h1⟩ := M.obj
      have hns := M.ns
      obtain ⟨G', g1, g2⟩ := restrict h' fun b => decide (b ≠ e)
      have gk : ∀ b, b ≠ e → G'.get? b = h'.get? b := fun b hb => g1 b (decide_eq_true hb)
      have ge : G'.get? e = none := g2 e (by simp)
      have old : ∀ b o, hp.get? b = some o → G'.get? b = some o := fun b o q => (gk b (Nat.ne_of_lt (Nat.lt_of_lt_of_le (Heap.lt_size q) M.new))).trans (M.keep b o q)
      have ob : ObjOk X.prog X.w (upd H1 d (.xd (fFs v1 v2))) G' d (.xd (fFs v1 v2)) :=
        ⟨_, hns.at (fun o q => (gk d M.dne).trans q), fun f => relO_fault rv1 rv2 f⟩
      have J : Inv X pins σ (upd H1 d (.xd (fFs v1 v2))) ⟨G', g, dr, tk', os⟩ := I1.laid (t' := tk') old M.dbig ob
      refine ⟨e, oe, fv, ⟨G', g, dr, tk', os⟩, _, .ref (He.ga X.K "Fault"), some d, rfl, J, fun b o q => ?_, ge, hoe, ⟨hc, hd⟩, hdat, h1, ?_, rfl, I1.bare, raises_own T.fault.exC T.fault.tyC, q1 d (I1.hok.fresh M.dbig)⟩
      · by_cases hb : b = e
        · have q' : G'.get? b = some o := q
          rw [hb, ge] at q'; cases q'
        · exact (gk b hb).symm.trans q
      · rw [upd_ne (Ne.symm M.dne)]
        exact I1.hok.fresh M.new
/-- raise Fault(kind, at) -/
def tRaiseF (C : Addr) (W : WX) (ta : TA) : TS := fun _ σ H => tMkF C ta σ H fun cls d H' => W cls d σ H'
theorem ps_raiseF {e1 e2 : Expr} {ta : TA} {W : WX} {p pos pos2 : Pos} {k : Nat} (hc : X.calm = true) (T : Txt X.K X.mg) (hr : Room k X.A) (tk : Takes X W) (ha : PA X [e1, e2] ta) (hg : Gl X "Fault" := by rfl)
    (he : starEach (e1 :: [e2]) X.env = (false, eval e1 X.env) :: starEach [e2] X.env := by rfl) (hpl : (backTo pos (starEach [e2] X.env)).any (·.1) = false := by rfl) :
    PS X (.Raise (some (.Call (.Name "Fault" p) [e1, e2] [] pos)) none pos2) (tRaiseF (He.ga X.K "Fault") W ta) := ps_raise hc tk (pmk_fault T hr ha hg he hpl)
/-- fault.f, fault the exception that the suite holds (at a; its class cls, its dict d) -/
def tByF (C : Addr) (f : Str) (a : Addr) (cls : Value) (d : Option Addr) (te : TE) : TE := fun σ H Q => te σ H fun x H1 => x = .ref a ∧ cls = .ref C ∧ ∃ (dd : Addr) (fs : List (Str × V)) (v : V), d = some dd ∧ H1 dd = some (.xd fs) ∧ fs.lookup f = some v ∧ Q v H1
theorem pe_byF {f : Str} {a : Addr} {oe : Obj} {cls : Value} {d : Option Addr} {pn : List (Addr × Obj)} {e : Expr} {te : TE} {pos : Pos} (T : Txt X.K X.mg) (nf : PySem.W.findIn X.K (.ref (He.ga X.K "Fault")) f = some none) (hz : Zc cls d oe) (hf : ∃ vs, oe.data = .fields vs) (he : PE (X.suite a ((a, oe) :: pn)) e te)
    (hb : attributeBase e f X.env (eval e X.env) = eval e X.env := by rfl) :
    PE (X.suite a ((a, oe) :: pn)) (.Attribute e f pos) (tByF (He.ga X.K "Fault") f a cls d te) := by
  refine ⟨fun pins s σ H Q I h => ?_⟩
  refine attr_of hb (thn (he.run pins s σ H _ I h) fun u s1 hh => ?_)
  obtain ⟨x, H1, I1, rx, ex, ec, dd, fs, v, ed, ea, lv, q⟩ := hh
  subst ex
  obtain rfl : u = Value.ref a := rx
  subst ec
  subst ed
  obtain ⟨ha, _⟩ := I1.pin (a, oe) (List.mem_append_left _ List.mem_cons_self)
  obtain ⟨vs, hd⟩ := hf
  have hx : ObjOk X.prog X.w H1 s1.heap dd (.xd fs) := I1.hok dd _ ea
  obtain ⟨mA, hns, hr⟩ := hx
  obtain ⟨od, ho, hl⟩ := lookIn_ns hns
  obtain ⟨u, hu, ru⟩ := RelO.some_of (v := v) (o := mA f) (by rw [← lv]; exact hr f)
  have J : PySem.W.InstAt s1.heap a oe (He.ga X.K "Fault") (some od) := ⟨ha, hz.1, by unfold PySem.W.notCls; rw [hd] <;> rfl, by rw [hz.2]; exact ho⟩
  exact HandSPX.exc_get I1.kIn J T.fault.ga T.fault.gg T.fault.exC (PySem.W.findObj_own T.fault.hdC nf rfl (by rw [hl, hu])) (handed_of ru) ⟨v, H1, I1.tok _, ru, q⟩
end
end CB
end
section
set_option Elab.async false
set_option linter.all false
set_option maxRecDepth 100000
set_option maxHeartbeats 4000000
namespace CB
open PySem PySem.Spec PyProof.Rows L2
open LsText (Bytes ascii Token numberOf isDigit)
open LsChain (front stuck fail sign isWord word num KEPT name)
/-! ### what stands outside M stays -/
def Keep (M : Addr → Prop) (H H2 : Hp) : Prop := ∀ b u, ¬ M b → H b = some u → H2 b = some u
theorem Keep.of {M : Addr → Prop} {H H2 : Hp} (s : Same H H2) : Keep M H H2 := fun b u _ e => s b u e
theorem Keep.trans {M : Addr → Prop} {H H1 H2 : Hp} (a : Keep M H H1) (b : Keep M H1 H2) : Keep M H H2 := fun c u n e => b c u n (a c u n e)
theorem Keep.mono {M N : Addr → Prop} {H H2 : Hp} (a : Keep M H H2) (h : ∀ b, M b → N b) : Keep N H H2 := fun c u n e => a c u (fun q => n (h c q)) e
structure Gm (M : Addr → Prop) (H F H2 F2 : Hp) : Prop where
  keep : Keep M H H2
  fr : Same F F2
  sub : Same F2 H2
  new : ∀ b o, H b = some o → F2 b = F b
section
variable {M N : Addr → Prop} {H F H1 F1 H2 F2 : Hp} {p x dx C : Addr} {o : HO} {fs : List (Str × V)}
theorem Gm.refl (h : Same F H) : Gm M H F H F := ⟨.of (Same.refl _), Same.refl _, h, fun _ _ _ => rfl⟩
theorem Gm.mono (a : Gm M H F H2 F2) (h : ∀ b, M b → N b) : Gm N H F H2 F2 := ⟨a.keep.mono h, a.fr, a.sub, a.new⟩
theorem Gm.there (a : Gm M H F H1 F1) (m : ∀ b, M b → ∃ u, H1 b = some u) {b : Addr} {u : HO} (e : H b = some u) : ∃ u, H1 b = some u := by
  by_cases q : M b
  · exact m b q
  · exact ⟨u, a.keep b u q e⟩
theorem Gm.trans (a : Gm M H F H1 F1) (b : Gm M H1 F1 H2 F2) (m : ∀ b, M b → ∃ u, H1 b = some u) : Gm M H F H2 F2 :=
  ⟨a.keep.trans b.keep, a.fr.trans b.fr, b.sub, fun c o h => by
    obtain ⟨u, e⟩ := a.there m h
    exact (b.new c u e).trans (a.new c o h)⟩
theorem Gm.of (g : Gr H F H2 F2) : Gm M H F H2 F2 := ⟨.of g.keep, g.fr, g.sub, g.new⟩
/-- Gr behind -/
theorem Gm.gr (a : Gm M H F H1 F1) (g : Gr H1 F1 H2 F2) (m : ∀ b, M b → ∃ u, H1 b = some u) : Gm M H F H2 F2 := a.trans (Gm.of g) m
/-- one of M is changed -/
theorem Gm.set (a : Gm M H F H1 F1) (hp : M p) (n : F1 p = none) : Gm M H F (upd H1 p o) F1 where
  keep := fun b u q e => by
    rw [upd_ne (fun z => q (by rw [z]; exact hp))]
    exact a.keep b u q e
  fr := a.fr
  sub := fun b u e => by
    rw [upd_ne (ne_some e n)]
    exact a.sub b u e
  new := a.new
end
/-! ### faults -/
def FailP (K : PySem.W.Frag) (M : Addr → Prop) (k a : Nat) (H : Hp) (E : XK) : Prop := ∀ d H2, Keep M H H2 → H2 d = some (.xd (fFs (.int (k : Int)) (.int (a : Int)))) → E (.ref (He.ga K "Fault")) (some d) H2
theorem FailP.mono {K : PySem.W.Frag} {M N : Addr → Prop} {k a : Nat} {H H1 : Hp} {E : XK} (f : FailP K N k a H E) (h : ∀ b, M b → N b) (s : Keep N H H1) : FailP K M k a H1 E := fun d H2 k e => f d H2 (s.trans (k.mono h)) e
theorem FailP.at {K : PySem.W.Frag} {M : Addr → Prop} {k a : Nat} {H H1 : Hp} {E : XK} (f : FailP K M k a H E) (s : Keep M H H1) : FailP K M k a H1 E := f.mono (fun _ h => h) s
theorem FailP.go {K : PySem.W.Frag} {M : Addr → Prop} {k a : Nat} {H : Hp} {E : XK} (f : FailP K M k a H E) {d : Addr} (hd : H d = none) : E (.ref (He.ga K "Fault")) (some d) (upd H d (.xd (fFs (.int (k : Int)) (.int (a : Int))))) := f d _ (.of (same_upd hd)) upd_same
/-! ### the reader -/
def Rdr (K : PySem.W.Frag) (H F : Hp) (ra : Addr) (t : Bytes) (l : List Token) : Prop := ∃ (p : Nat) (dx ta tk : Addr), p ≤ t.length ∧ t.length ≤ 100000 ∧ l = toks t p ∧ H ra = some (.ins (He.ga K "Reader") dx [("text", .ref ta), ("token", .ref tk)]) ∧ F ra = none ∧ F ta = some (.lst (bV t)) ∧ IsTk K F tk (tkFrom t p) ∧ Same F H
theorem Rdr.keep {K : PySem.W.Frag} {H F H2 F2 : Hp} {ra : Addr} {t : Bytes} {l : List Token} (r : Rdr K H F ra t l) (s : Same H H2) (f : Same F F2) (s2 : Same F2 H2) (n : F2 ra = none) : Rdr K H2 F2 ra t l := by
  obtain ⟨p, dx, ta, tk, h1, h2, h3, h4, h5, h6, h7, h8⟩ := r
  exact ⟨p, dx, ta, tk, h1, h2, h3, s _ _ h4, n, f _ _ h6, h7.mono f, s2⟩
def oneM (ra : Addr) : Addr → Prop := fun b => b = ra
def kindOf : LsText.Tok → Nat
  | .word _ => 2
  | .num _ => 3
  | .text _ => 4
  | .sign _ => 5
  | .none_ => 0
  | .over => 1
theorem kind_tk {k : Tk} {x : LsText.Tok} (h : TkIs k x) : k.kind = kindOf x := by
  cases x with
  | word b => exact h.1
  | num n => exact h.1
  | text b => exact h.1
  | sign c => exact h.1
  | none_ => exact h
  | over => exact h
theorem kind_none {x : LsText.Tok} : kindOf x = 0 ↔ x = .none_ := by cases x <;> simp [kindOf]
def isNameB (l : List Token) : Bool := match (front l).tok with
  | .word w => !KEPT.contains w
  | _ => false
/-- what a method that only looks promises: a fault at what's no token, else f -/
def Looks1 (K : PySem.W.Frag) (ra : Addr) (l : List Token) (H : Hp) (E : XK) (f : Prop) : Prop := ((front l).tok = .none_ → FailP K (oneM ra) 1 (front l).at_ H E) ∧ ((front l).tok ≠ .none_ → f)
def spLook (K : PySem.W.Frag) : Sp := sp1 fun x H Q E => ∃ (ra : Addr) (t : Bytes) (l : List Token) (F : Hp), x = .ref ra ∧ Rdr K H F ra t l ∧ Looks1 K ra l H E (∀ tk k, IsTk K F tk k → TkIs k (front l).tok → k.at_ = (front l).at_ → (regular (front l).tok = true → k.behind ≤ t.length ∧ l.drop 1 = toks t k.behind) → Q (.ref tk) H)
def spPlace (K : PySem.W.Frag) : Sp := sp1 fun x H Q E => ∃ (ra : Addr) (t : Bytes) (l : List Token) (F : Hp), x = .ref ra ∧ Rdr K H F ra t l ∧ Looks1 K ra l H E (Q (.int ((front l).at_ : Int)) H)
def spSees (K : PySem.W.Frag) : Sp := sp2 fun x y H Q E => ∃ (ra : Addr) (t : Bytes) (l : List Token) (F : Hp) (k : Nat), x = .ref ra ∧ y = .int (k : Int) ∧ Rdr K H F ra t l ∧ Looks1 K ra l H E (Q (.bl (kindOf (front l).tok == k)) H)
def spSeesWord (K : PySem.W.Frag) : Sp := sp2 fun x y H Q E => ∃ (ra : Addr) (t : Bytes) (l : List Token) (F : Hp) (z : Str) (b : Bytes), x = .ref ra ∧ y = .str z ∧ StrIs z b ∧ b.length ≤ 1000 ∧ Rdr K H F ra t l ∧ Looks1 K ra l H E (∀ H2, Same H H2 → Q (.bl (decide ((front l).tok = .word b))) H2)
def spSeesSign (K : PySem.W.Frag) : Sp := sp2 fun x y H Q E => ∃ (ra : Addr) (t : Bytes) (l : List Token) (F : Hp) (c : UInt8), x = .ref ra ∧ y = .int (c.toNat : Int) ∧ Rdr K H F ra t l ∧ Looks1 K ra l H E (∀ H2, Same H H2 → Q (.bl (decide ((front l).tok = .sign c))) H2)
def spSeesName (K : PySem.W.Frag) : Sp := sp1 fun x H Q E => ∃ (ra : Addr) (t : Bytes) (l : List Token) (F : Hp), x = .ref ra ∧ Rdr K H F ra t l ∧ Looks1 K ra l H E (∀ H2, Same H H2 → Q (.bl (isNameB l)) H2)
def spTake (K : PySem.W.Frag) : Sp := sp1 fun x H Q E => ∃ (ra : Addr) (t : Bytes) (l : List Token) (F : Hp), x = .ref ra ∧ Rdr K H F ra t l ∧ regular (front l).tok = true ∧
  ∀ H2 F2 tk k, Gm (oneM ra) H F H2 F2 → Rdr K H2 F2 ra t (l.drop 1) → IsTk K F2 tk k → TkIs k (front l).tok → Q (.ref tk) H2
section
variable {P : Program} {w : World} {K : PySem.W.Frag} {mg : Str → Option Value} {base : Heap}
theorem ok_Reader_look (T : Txt K mg) : Ok P w K mg base (L2.CX P w) 3 ("Reader", some "look") ["self"] (spLook K) := by
  refine mk_okX T 68 rfl sc_Reader_look T.g_Reader (fun _ _ _ _ _ _ us hl => match us, hl with | [_], _ => rfl) len1 (fun cdv A outer s H vs Q E hr h => ?_)
  refine ⟨_, (pss_cons (ps_if (pt_cmpR op_eq (pe_fld (pe_fld (pv 0) rfl) rfl) (pe_cst T.m_NO_TOKEN) (nomark _)) (pss_one (ps_raiseF rfl T hr (takes_of rfl rfl rfl rfl) (pa_cons (pe_cst T.m_NO_SUCH_TOKEN) (pa_cons (pe_fld (pe_fld (pv 0) rfl) rfl) pa_nil)))) pss_nil)
      (pss_one (ps_ret (pe_fld (pv 0) rfl)))), ?_⟩
  obtain ⟨x0, rfl, h⟩ := h
  obtain ⟨ra, t, l, F, rfl, ⟨p, dx, ta, tk, hp, hl, rfl, hra, fra, fta, htk, hF⟩, h⟩ := h
  obtain ⟨f1, f2, f3⟩ := toks_front t p hp
  obtain ⟨kx, ka, k1, k2⟩ := id htk
  have kk := kind_tk f1
  refine ⟨_, rfl, ra, _, dx, _, _, rfl, hra, T.c_Reader, T.a_Reader_token, rfl, tk, _, kx, _, _, rfl, hF _ _ k1, T.c_Token, T.a_Token_kind, rfl, rfl, _, rfl, ?_⟩
  by_cases c : (front (toks t p)).tok = .none_
  · have e0 : (tkFrom t p).kind = 0 := by rw [kk, c]; rfl
    rw [e0]
    refine iteT ⟨_, rfl, ra, _, dx, _, _, rfl, hra, T.c_Reader, T.a_Reader_token, rfl, tk, _, kx, _, _, rfl, hF _ _ k1, T.c_Token, T.a_Token_at, rfl, _, _, rfl, fun d hd => ?_⟩
    have := (h.1 c).go hd
    rw [f2] at this
    exact this
  · have e0 : decide (V.int ((tkFrom t p).kind : Int) = V.int 0) = false := decide_eq_false fun q => c (kind_none.mp (by rw [← kk]; have := V.int.inj q; omega))
    rw [e0]
    exact iteF ⟨_, rfl, ra, _, dx, _, _, rfl, hra, T.c_Reader, T.a_Reader_token, rfl, h.2 c tk _ htk f1 f2.symm fun q => ⟨(f3 q).2.2, by rw [(f3 q).1]; rfl⟩⟩
theorem Rdr.ins {H F : Hp} {ra : Addr} {t : Bytes} {l : List Token} (r : Rdr K H F ra t l) : ∃ dx ta tk, H ra = some (.ins (He.ga K "Reader") dx [("text", .ref ta), ("token", .ref tk)]) := by
  obtain ⟨p, dx, ta, tk, h1, h2, h3, h4, _⟩ := r
  exact ⟨dx, ta, tk, h4⟩
theorem Rdr.sub {H F : Hp} {ra : Addr} {t : Bytes} {l : List Token} (r : Rdr K H F ra t l) : Same F H := by
  obtain ⟨p, dx, ta, tk, h1, h2, h3, h4, h5, h6, h7, h8⟩ := r
  exact h8
theorem Rdr.out {H F : Hp} {ra : Addr} {t : Bytes} {l : List Token} (r : Rdr K H F ra t l) : F ra = none := by
  obtain ⟨p, dx, ta, tk, h1, h2, h3, h4, h5, h6, h7, h8⟩ := r
  exact h5
theorem Rdr.more {H F H2 : Hp} {ra : Addr} {t : Bytes} {l : List Token} (r : Rdr K H F ra t l) (s : Same H H2) : Rdr K H2 F ra t l := r.keep s (Same.refl _) (r.sub.trans s) r.out
theorem Looks1.at {ra : Addr} {l : List Token} {H H2 : Hp} {E : XK} {f f' : Prop} (h : Looks1 K ra l H E f) (s : Same H H2) (g : f → f') : Looks1 K ra l H2 E f' := ⟨fun c => (h.1 c).at (.of s), fun c => g (h.2 c)⟩
theorem ok_Reader_place (T : Txt K mg) : Ok P w K mg base (L2.CX P w) 4 ("Reader", some "place") ["self"] (spPlace K) := by
  refine mk_okX T 69 rfl sc_Reader_place T.g_Reader (fun _ _ _ _ _ _ us hl => match us, hl with | [_], _ => rfl) len1 (fun cdv A outer s H vs Q E hr h => ?_)
  refine ⟨_, (pss_one (ps_ret (pe_fld (pe_mX0 (pv 0) T.c_Reader T.h_Reader_look (ok_Reader_look T) hr (takes_of rfl rfl rfl rfl)) rfl))), ?_⟩
  obtain ⟨x0, rfl, h⟩ := h
  obtain ⟨ra, t, l, F, rfl, rd, h⟩ := h
  obtain ⟨dx, ta, tk0, hra⟩ := rd.ins
  refine ⟨_, rfl, ra, dx, _, rfl, hra, rfl, _, rfl, ra, t, l, F, rfl, rd, h.1, fun c tk k hk f1 f2 _ => ?_⟩
  obtain ⟨kx, ka, k1, k2⟩ := hk
  have g := h.2 c
  rw [← f2] at g
  exact ⟨tk, _, kx, _, _, rfl, rd.sub _ _ k1, T.c_Token, T.a_Token_at, rfl, g⟩
theorem ok_Reader_sees (T : Txt K mg) : Ok P w K mg base (L2.CX P w) 4 ("Reader", some "sees") ["self", "kind"] (spSees K) := by
  refine mk_okX T 70 rfl sc_Reader_sees T.g_Reader (fun _ _ _ _ _ _ us hl => match us, hl with | [_, _], _ => rfl) len2 (fun cdv A outer s H vs Q E hr h => ?_)
  refine ⟨_, (pss_one (ps_ret (pe_cmpR op_eq (pe_fld (pe_mX0 (pv 0) T.c_Reader T.h_Reader_look (ok_Reader_look T) hr (takes_of rfl rfl rfl rfl)) rfl) (pv 1) (nomark _)))), ?_⟩
  obtain ⟨x0, x1, rfl, h⟩ := h
  obtain ⟨ra, t, l, F, j, rfl, rfl, rd, h⟩ := h
  obtain ⟨dx, ta, tk0, hra⟩ := rd.ins
  refine ⟨_, rfl, ra, dx, _, rfl, hra, rfl, _, rfl, ra, t, l, F, rfl, rd, h.1, fun c tk k hk f1 f2 _ => ?_⟩
  obtain ⟨kx, ka, k1, k2⟩ := hk
  have g := h.2 c
  refine ⟨tk, _, kx, _, _, rfl, rd.sub _ _ k1, T.c_Token, T.a_Token_kind, rfl, _, rfl, rfl, ?_⟩
  have e : decide (V.int (k.kind : Int) = V.int (j : Int)) = (kindOf (front l).tok == j) := bool_eq (by
    rw [decide_eq_true_eq, beq_iff_eq, ← kind_tk f1]
    exact ⟨fun z => by have := V.int.inj z; omega, fun z => by rw [z]⟩)
  rw [e]
  exact g
theorem row_word {k : Tk} {x : LsText.Tok} (h : TkIs k x) (b : Bytes) (hk : kindOf x = 2) : decide (k.row = b) = decide (x = .word b) := by
  cases x with
  | word c =>
    have := h.2
    rw [this]
    exact decide_eq_decide.mpr ⟨fun z => by rw [z], fun z => by cases z; rfl⟩
  | num n => cases hk
  | text b => cases hk
  | sign c => cases hk
  | none_ => cases hk
  | over => cases hk
theorem row_sign {k : Tk} {x : LsText.Tok} (h : TkIs k x) (c : UInt8) (hk : kindOf x = 5) : decide (k.row = [c]) = decide (x = .sign c) := by
  cases x with
  | sign d =>
    have := h.2
    rw [this]
    exact decide_eq_decide.mpr ⟨fun z => by cases z; rfl, fun z => by cases z; rfl⟩
  | word c => cases hk
  | num n => cases hk
  | text b => cases hk
  | none_ => cases hk
  | over => cases hk
theorem ok_Reader_sees_word (T : Txt K mg) : Ok P w K mg base (L2.CX P w) 5 ("Reader", some "sees_word") ["self", "word"] (spSeesWord K) := by
  refine mk_okX T 71 rfl sc_Reader_sees_word T.g_Reader (fun _ _ _ _ _ _ us hl => match us, hl with | [_, _], _ => rfl) len2 (fun cdv A outer s H vs Q E hr h => ?_)
  refine ⟨_, (pss_one (ps_ret (pe_and (pe_mX (pv 0) T.c_Reader T.h_Reader_sees (ok_Reader_sees T) hr (takes_of rfl rfl rfl rfl) (pa_cons (pe_cst T.m_WORD) pa_nil)) (pe_one (pe_cmpR (op_eqD hr.units) (pe_fld (pe_mX0 (pv 0) T.c_Reader T.h_Reader_look (ok_Reader_look T) hr (takes_of rfl rfl rfl rfl)) rfl) (pe_c (ok_bytes_of T) hr (pa_cons (pv 1) pa_nil)) (nomark _)))))), ?_⟩
  obtain ⟨x0, x1, rfl, h⟩ := h
  obtain ⟨ra, t, l, F, z, b, rfl, rfl, hz, hb, rd, h⟩ := h
  obtain ⟨dx, ta, tk0, hra⟩ := rd.ins
  refine ⟨_, rfl, ra, dx, _, rfl, hra, rfl, _, _, rfl, ra, t, l, F, 2, rfl, rfl, rd, h.1, fun c => ⟨_, rfl, ?_⟩⟩
  by_cases k2 : kindOf (front l).tok = 2
  · rw [show (kindOf (front l).tok == 2) = true from beq_iff_eq.mpr k2]
    refine iteT ⟨_, rfl, ra, dx, _, rfl, hra, rfl, _, rfl, ra, t, l, F, rfl, rd, h.1, fun c tk k hk f1 f2 _ => ?_⟩
    obtain ⟨kx, ka, j1, j2⟩ := hk
    refine ⟨tk, _, kx, _, _, rfl, rd.sub _ _ j1, T.c_Token, T.a_Token_row, rfl, _, rfl, _, rfl, z, b, rfl, hz, by omega, fun p H1 hp s1 e1 => ?_⟩
    refine ⟨.list (bD k.row), .list (bD b), dp_list (.of (s1 _ _ (rd.sub _ _ j2))), dp_list (.of e1), bL_shaped _, bL_shaped _, ?_⟩
    rw [bL_eqv, row_word f1 b k2]
    exact h.2 c H1 s1
  · rw [show (kindOf (front l).tok == 2) = false from beq_eq_false_iff_ne.mpr k2]
    have : decide ((front l).tok = .word b) = false := decide_eq_false fun q => k2 (by rw [q]; rfl)
    have g := h.2 c H (Same.refl _)
    rw [this] at g
    exact iteF g
theorem ok_Reader_sees_sign (T : Txt K mg) : Ok P w K mg base (L2.CX P w) 5 ("Reader", some "sees_sign") ["self", "sign"] (spSeesSign K) := by
  refine mk_okX T 72 rfl sc_Reader_sees_sign T.g_Reader (fun _ _ _ _ _ _ us hl => match us, hl with | [_, _], _ => rfl) len2 (fun cdv A outer s H vs Q E hr h => ?_)
  refine ⟨_, (pss_one (ps_ret (pe_and (pe_mX (pv 0) T.c_Reader T.h_Reader_sees (ok_Reader_sees T) hr (takes_of rfl rfl rfl rfl) (pa_cons (pe_cst T.m_SIGN) pa_nil)) (pe_one (pe_cmpR (op_eqD hr.units) (pe_fld (pe_mX0 (pv 0) T.c_Reader T.h_Reader_look (ok_Reader_look T) hr (takes_of rfl rfl rfl rfl)) rfl) (pe_lst (pa_cons (pv 1) pa_nil)) (nomark _)))))), ?_⟩
  obtain ⟨x0, x1, rfl, h⟩ := h
  obtain ⟨ra, t, l, F, c0, rfl, rfl, rd, h⟩ := h
  obtain ⟨dx, ta, tk0, hra⟩ := rd.ins
  refine ⟨_, rfl, ra, dx, _, rfl, hra, rfl, _, _, rfl, ra, t, l, F, 5, rfl, rfl, rd, h.1, fun c => ⟨_, rfl, ?_⟩⟩
  by_cases k2 : kindOf (front l).tok = 5
  · rw [show (kindOf (front l).tok == 5) = true from beq_iff_eq.mpr k2]
    refine iteT ⟨_, rfl, ra, dx, _, rfl, hra, rfl, _, rfl, ra, t, l, F, rfl, rd, h.1, fun c tk k hk f1 f2 _ => ?_⟩
    obtain ⟨kx, ka, j1, j2⟩ := hk
    refine ⟨tk, _, kx, _, _, rfl, rd.sub _ _ j1, T.c_Token, T.a_Token_row, rfl, _, rfl, (by show 1 ≤ sizeLine; decide), fun p hp => ?_⟩
    have s1 : Same H (upd H p (.lst (bV [c0]))) := same_upd hp
    have e1 : upd H p (.lst (bV [c0])) p = some (.lst (bV [c0])) := upd_same
    refine ⟨.list (bD k.row), .list (bD [c0]), dp_list (.of (s1 _ _ (rd.sub _ _ j2))), dp_list (.of e1), bL_shaped _, bL_shaped _, ?_⟩
    rw [bL_eqv, row_sign f1 c0 k2]
    exact h.2 c _ s1
  · rw [show (kindOf (front l).tok == 5) = false from beq_eq_false_iff_ne.mpr k2]
    have : decide ((front l).tok = .sign c0) = false := decide_eq_false fun q => k2 (by rw [q]; rfl)
    have g := h.2 c H (Same.refl _)
    rw [this] at g
    exact iteF g
end
end CB
end
section
set_option Elab.async false
set_option linter.all false
set_option maxRecDepth 100000
set_option maxHeartbeats 4000000
namespace CB
open PySem PySem.Spec PyProof.Rows L2
open LsText (Bytes ascii Token numberOf isDigit)
open LsChain (front stuck fail sign isWord word num KEPT name)
def keptS : List String := ["unit", "known", "at", "line", "to", "measures", "station", "tie", "feature", "left", "right"]
theorem kept_is : KEPT = keptS.map ascii := rfl
theorem kept_small : ∀ s ∈ keptS, ∀ c ∈ s.toList, c.toNat < 256 := by decide
theorem kept_len : ∀ s ∈ keptS, (ascii s).length ≤ 1000 := by decide
def xsKept : List V := keptS.map fun s => V.str (Str.ofString s)
def stuckK (l : List Token) : Nat := if (front l).tok = .none_ then 1 else 2
def Takes2 (K : PySem.W.Frag) (ra : Addr) (t : Bytes) (l : List Token) (H F : Hp) (Q : VK) : Prop := ∀ H2 F2, Gm (oneM ra) H F H2 F2 → Rdr K H2 F2 ra t (l.drop 1) → Q .non H2
def spTakeWord (K : PySem.W.Frag) : Sp := sp2 fun x y H Q E => ∃ (ra : Addr) (t : Bytes) (l : List Token) (F : Hp) (z : Str) (b : Bytes), x = .ref ra ∧ y = .str z ∧ StrIs z b ∧ b.length ≤ 1000 ∧ Rdr K H F ra t l ∧
  ((front l).tok = .word b → Takes2 K ra t l H F Q) ∧ ((front l).tok ≠ .word b → FailP K (oneM ra) (stuckK l) (front l).at_ H E)
def spTakeSign (K : PySem.W.Frag) : Sp := sp2 fun x y H Q E => ∃ (ra : Addr) (t : Bytes) (l : List Token) (F : Hp) (c : UInt8), x = .ref ra ∧ y = .int (c.toNat : Int) ∧ Rdr K H F ra t l ∧
  ((front l).tok = .sign c → Takes2 K ra t l H F Q) ∧ ((front l).tok ≠ .sign c → FailP K (oneM ra) (stuckK l) (front l).at_ H E)
def spTakeName (K : PySem.W.Frag) : Sp := sp1 fun x H Q E => ∃ (ra : Addr) (t : Bytes) (l : List Token) (F : Hp), x = .ref ra ∧ Rdr K H F ra t l ∧
  (∀ n r, name l = .ok (n, r) → ∀ H2 F2 na, Gm (oneM ra) H F H2 F2 → Rdr K H2 F2 ra t r → IsName F2 na n → Q (.ref na) H2) ∧ (∀ e, name l = .error e → FailP K (oneM ra) e.1 e.2 H E)
def spTakeNumber (K : PySem.W.Frag) : Sp := sp3 fun x y z H Q E => ∃ (ra : Addr) (t : Bytes) (l : List Token) (F : Hp) (lo hi : Nat), x = .ref ra ∧ y = .int (lo : Int) ∧ z = .int (hi : Int) ∧ Rdr K H F ra t l ∧
  (∀ n r, num lo hi l = .ok (n, r) → ∀ H2 F2, Gm (oneM ra) H F H2 F2 → Rdr K H2 F2 ra t r → Q (.int (n : Int)) H2) ∧ (∀ e, num lo hi l = .error e → FailP K (oneM ra) e.1 e.2 H E)
section
variable {P : Program} {w : World} {K : PySem.W.Frag} {mg : Str → Option Value} {base : Heap}
theorem ok_Reader_sees_name (T : Txt K mg) : Ok P w K mg base (L2.CX P w) 6 ("Reader", some "sees_name") ["self"] (spSeesName K) := by
  refine mk_okX T 73 rfl sc_Reader_sees_name T.g_Reader (fun _ _ _ _ _ _ us hl => match us, hl with | [_], _ => rfl) len1 (fun cdv A outer s H vs Q E hr h => ?_)
  refine ⟨_, (pss_cons (ps_for (passes_of rfl) rfl (pi_tup (pe_gref T.g_KEPT)) (pg_name (i := 1) sc_Reader_sees_name.nd rfl (Or.inl rfl))
      (pss_one (ps_if (pt_val (pe_mX (pv 0) T.c_Reader T.h_Reader_sees_word (ok_Reader_sees_word T) hr (takes_of rfl rfl rfl rfl) (pa_cons (pv 1) pa_nil))) (pss_one (ps_ret pe_bl)) pss_nil)))
      (pss_one (ps_ret (pe_mX (pv 0) T.c_Reader T.h_Reader_sees (ok_Reader_sees T) hr (takes_of rfl rfl rfl rfl) (pa_cons (pe_cst T.m_WORD) pa_nil))))), ?_⟩
  obtain ⟨x0, rfl, h⟩ := h
  obtain ⟨ra, t, l, F, rfl, rd, h⟩ := h
  obtain ⟨dx, ta, tk0, hra⟩ := rd.ins
  let Pv : Nat → L2.St → Hp → Prop := fun i σ H' => ∃ v, σ = [some (.ref ra), v] ∧ Same H H' ∧ ∀ j s, j < i → keptS[j]? = some s → (front l).tok ≠ .word (ascii s)
  have tup : ∀ H' : Hp, SqT K H' (He.ga K "KEPT") xsKept := fun H' => T.t_KEPT H'
  refine ⟨_, rfl, ⟨_, tup _⟩, for_it (walk_tup (K := K) (a := He.ga K "KEPT") (xs := xsKept)) Pv ⟨none, rfl, Same.refl _, fun j s hj => absurd hj (Nat.not_lt_zero _)⟩ (fun i σ H' _ _ => tup H') ?_ ?_⟩
  · rintro i x σ H1 H2 hi ⟨v, rfl, s1, hn⟩ ⟨rfl, hx⟩
    unfold xsKept at hx
    rw [List.getElem?_map] at hx
    cases hs : keptS[i]? with
    | none => rw [hs] at hx; cases hx
    | some s =>
      rw [hs] at hx
      cases hx
      have ms := List.mem_of_getElem? hs
      refine ⟨_, rfl, ra, dx, _, rfl, s1 _ _ hra, rfl, _, rfl, _, _, rfl, ra, t, l, F, _, ascii s, rfl, rfl, st_of (kept_small s ms), kept_len s ms, rd.more s1, fun c => (h.1 c).at (.of s1), fun c H3 s3 => ⟨_, rfl, ?_⟩⟩
      by_cases q : (front l).tok = .word (ascii s)
      · rw [decide_eq_true q]
        have g := h.2 c H3 (s1.trans s3)
        have e : isNameB l = false := by
          unfold isNameB
          rw [q]
          have : KEPT.contains (ascii s) = true := by
            rw [kept_is]
            simp
            exact ⟨s, ms, rfl⟩
          show (!KEPT.contains (ascii s)) = false
          rw [this]
          rfl
        rw [e] at g
        exact iteT g
      · rw [decide_eq_false q]
        refine iteF ⟨_, rfl, s1.trans s3, fun j s' hj hs' => ?_⟩
        by_cases e : j = i
        · subst e
          rw [hs] at hs'
          cases hs'
          exact q
        · exact hn j s' (by omega) hs'
  · rintro σ H' ⟨v, rfl, s1, hn⟩
    refine ⟨_, rfl, ra, dx, _, rfl, s1 _ _ hra, rfl, _, _, rfl, ra, t, l, F, 2, rfl, rfl, rd.more s1, fun c => (h.1 c).at (.of s1), fun c => ?_⟩
    have g := h.2 c H' s1
    have e : isNameB l = (kindOf (front l).tok == 2) := by
      unfold isNameB
      cases q : (front l).tok with
      | word b =>
        have : KEPT.contains b = false := by
          rw [kept_is, Bool.eq_false_iff]
          intro z
          simp only [List.contains_iff_mem] at z
          obtain ⟨s, hs, e⟩ := List.mem_map.mp z
          obtain ⟨j, hj⟩ := List.getElem?_of_mem hs
          have jl : j < xsKept.length := by
            have := (List.getElem?_eq_some_iff.mp hj).1
            unfold xsKept
            rw [List.length_map]
            exact this
          exact hn j s jl hj (by rw [q, e])
        simp only [this]
        rfl
      | num n => rfl
      | text b => rfl
      | sign c => rfl
      | none_ => rfl
      | over => rfl
    rw [e] at g
    exact g
theorem ok_Reader_take (T : Txt K mg) : Ok P w K mg base (L2.CX P w) 6 ("Reader", some "take") ["self"] (spTake K) := by
  refine mk_okX T 74 rfl sc_Reader_take T.g_Reader (fun _ _ _ _ _ _ us hl => match us, hl with | [_], _ => rfl) len1 (fun cdv A outer s H vs Q E hr h => ?_)
  refine ⟨_, (pss_cons (ps_set (i := 1) sc_Reader_take.nd rfl (Or.inl rfl) (pe_mX0 (pv 0) T.c_Reader T.h_Reader_look (ok_Reader_look T) hr (takes_of rfl rfl rfl rfl)))
      (pss_cons (ps_fld (pv 0) (pe_c (ok_token_from T) hr (pa_cons (pe_fld (pv 0) rfl) (pa_cons (pe_fld (pv 1) rfl) pa_nil))) rfl)
      (pss_one (ps_ret (pv 1))))), ?_⟩
  obtain ⟨x0, rfl, h⟩ := h
  obtain ⟨ra, t, l, F, rfl, rd, reg, h⟩ := h
  obtain ⟨p, dx, ta, tk0, hp, hl, el, hra, fra, fta, htk, hF⟩ := id rd
  have nn : (front l).tok ≠ .none_ := fun z => by rw [z] at reg; cases reg
  refine ⟨_, rfl, ra, dx, _, rfl, hra, rfl, _, rfl, ra, t, l, F, rfl, rd, fun c => absurd c nn, fun c tk k hk f1 f2 f3 => ?_⟩
  obtain ⟨b1, b2⟩ := f3 reg
  obtain ⟨kx, ka, j1, j2⟩ := id hk
  refine ⟨_, rfl, ra, _, dx, _, _, rfl, hra, T.c_Reader, T.a_Reader_text, rfl, _, rfl, tk, _, kx, _, _, rfl, hF _ _ j1, T.c_Token, T.a_Token_behind, rfl, _, _, rfl, ta, t, k.behind, F, rfl, .of (hF _ _ fta), hl, rfl, b1, hF, ?_⟩
  rintro _ H2 F2 g ⟨nt, rfl, hn⟩
  have hra2 := g.keep _ _ hra
  have fra2 : F2 ra = none := (g.new _ _ hra).trans fra
  refine ⟨_, rfl, ra, _, dx, _, rfl, hra2, T.c_Reader, T.a_Reader_token, (by show 2 < 1000; decide), ?_⟩
  refine ⟨_, rfl, h _ F2 tk k ((Gm.of g).set rfl fra2) ?_ (hk.mono g.fr) f1⟩
  refine ⟨k.behind, dx, ta, nt, b1, hl, b2, upd_same, fra2, g.fr _ _ fta, hn, fun b u e => ?_⟩
  rw [upd_ne (fun z => by rw [z, fra2] at e; cases e)]
  exact g.sub b u e
theorem one_there {H F : Hp} {ra : Addr} {t : Bytes} {l : List Token} (r : Rdr K H F ra t l) : ∀ b, oneM ra b → ∃ u, H b = some u := fun b e => by
  obtain ⟨dx, ta, tk, h⟩ := r.ins
  rw [show b = ra from e]
  exact ⟨_, h⟩
theorem gm_same {M : Addr → Prop} {H F H2 : Hp} (hF : Same F H) (s : Same H H2) : Gm M H F H2 F := ⟨.of s, Same.refl _, hF.trans s, fun _ _ _ => rfl⟩
theorem ok_Reader_take_word (T : Txt K mg) : Ok P w K mg base (L2.CX P w) 7 ("Reader", some "take_word") ["self", "word"] (spTakeWord K) := by
  refine mk_okX T 75 rfl sc_Reader_take_word T.g_Reader (fun _ _ _ _ _ _ us hl => match us, hl with | [_, _], _ => rfl) len2 (fun cdv A outer s H vs Q E hr h => ?_)
  refine ⟨_, (pss_cons (ps_if (pt_not (pt_val (pe_mX (pv 0) T.c_Reader T.h_Reader_sees_word (ok_Reader_sees_word T) hr (takes_of rfl rfl rfl rfl) (pa_cons (pv 1) pa_nil)))) (pss_one (ps_raiseF rfl T hr (takes_of rfl rfl rfl rfl) (pa_cons (pe_cst T.m_CANNOT_STAND) (pa_cons (pe_mX0 (pv 0) T.c_Reader T.h_Reader_place (ok_Reader_place T) hr (takes_of rfl rfl rfl rfl)) pa_nil)))) pss_nil)
      (pss_one (ps_expr (pe_mX0 (pv 0) T.c_Reader T.h_Reader_take (ok_Reader_take T) hr (takes_of rfl rfl rfl rfl))))), ?_⟩
  obtain ⟨x0, x1, rfl, h⟩ := h
  obtain ⟨ra, t, l, F, z, b, rfl, rfl, hz, hb, rd, hy, hn⟩ := h
  obtain ⟨dx, ta, tk0, hra⟩ := rd.ins
  refine ⟨_, rfl, ra, dx, _, rfl, hra, rfl, _, rfl, _, _, rfl, ra, t, l, F, z, b, rfl, rfl, hz, hb, rd, fun c => ?_, fun c H1 s1 => ⟨_, rfl, ?_⟩⟩
  · have := hn (by rw [c]; intro q; cases q)
    rwa [show stuckK l = 1 from if_pos c] at this
  · by_cases q : (front l).tok = .word b
    · rw [decide_eq_true q]
      have rd1 := rd.more s1
      refine iteF ⟨_, rfl, ra, dx, _, rfl, s1 _ _ hra, rfl, _, rfl, ra, t, l, F, rfl, rd1, by rw [q]; rfl, fun H2 F2 tk k g r2 _ _ => ?_⟩
      exact hy q H2 F2 ((gm_same rd.sub s1).trans g (one_there rd1)) r2
    · rw [decide_eq_false q]
      refine iteT ⟨_, rfl, ra, dx, _, rfl, s1 _ _ hra, rfl, _, rfl, ra, t, l, F, rfl, rd.more s1, fun c' => absurd c' c, fun _ => ⟨_, _, rfl, fun d hd => ?_⟩⟩
      have f := (hn q).at (.of s1)
      rw [show stuckK l = 2 from if_neg c] at f
      exact f.go hd
theorem ok_Reader_take_sign (T : Txt K mg) : Ok P w K mg base (L2.CX P w) 7 ("Reader", some "take_sign") ["self", "sign"] (spTakeSign K) := by
  refine mk_okX T 76 rfl sc_Reader_take_sign T.g_Reader (fun _ _ _ _ _ _ us hl => match us, hl with | [_, _], _ => rfl) len2 (fun cdv A outer s H vs Q E hr h => ?_)
  refine ⟨_, (pss_cons (ps_if (pt_not (pt_val (pe_mX (pv 0) T.c_Reader T.h_Reader_sees_sign (ok_Reader_sees_sign T) hr (takes_of rfl rfl rfl rfl) (pa_cons (pv 1) pa_nil)))) (pss_one (ps_raiseF rfl T hr (takes_of rfl rfl rfl rfl) (pa_cons (pe_cst T.m_CANNOT_STAND) (pa_cons (pe_mX0 (pv 0) T.c_Reader T.h_Reader_place (ok_Reader_place T) hr (takes_of rfl rfl rfl rfl)) pa_nil)))) pss_nil)
      (pss_one (ps_expr (pe_mX0 (pv 0) T.c_Reader T.h_Reader_take (ok_Reader_take T) hr (takes_of rfl rfl rfl rfl))))), ?_⟩
  obtain ⟨x0, x1, rfl, h⟩ := h
  obtain ⟨ra, t, l, F, b, rfl, rfl, rd, hy, hn⟩ := h
  obtain ⟨dx, ta, tk0, hra⟩ := rd.ins
  refine ⟨_, rfl, ra, dx, _, rfl, hra, rfl, _, rfl, _, _, rfl, ra, t, l, F, b, rfl, rfl, rd, fun c => ?_, fun c H1 s1 => ⟨_, rfl, ?_⟩⟩
  · have := hn (by rw [c]; intro q; cases q)
    rwa [show stuckK l = 1 from if_pos c] at this
  · by_cases q : (front l).tok = .sign b
    · rw [decide_eq_true q]
      have rd1 := rd.more s1
      refine iteF ⟨_, rfl, ra, dx, _, rfl, s1 _ _ hra, rfl, _, rfl, ra, t, l, F, rfl, rd1, by rw [q]; rfl, fun H2 F2 tk k g r2 _ _ => ?_⟩
      exact hy q H2 F2 ((gm_same rd.sub s1).trans g (one_there rd1)) r2
    · rw [decide_eq_false q]
      refine iteT ⟨_, rfl, ra, dx, _, rfl, s1 _ _ hra, rfl, _, rfl, ra, t, l, F, rfl, rd.more s1, fun c' => absurd c' c, fun _ => ⟨_, _, rfl, fun d hd => ?_⟩⟩
      have f := (hn q).at (.of s1)
      rw [show stuckK l = 2 from if_neg c] at f
      exact f.go hd
theorem name_yes {l : List Token} (h : isNameB l = true) : ∃ n, (front l).tok = .word n ∧ name l = .ok (n, l.drop 1) := by
  unfold isNameB at h
  unfold name
  cases q : (front l).tok with
  | word b =>
    rw [q] at h
    have h : KEPT.contains b = false := by simpa using h
    refine ⟨b, rfl, ?_⟩
    simp only [h]
    rfl
  | num n => rw [q] at h; cases h
  | text b => rw [q] at h; cases h
  | sign c => rw [q] at h; cases h
  | none_ => rw [q] at h; cases h
  | over => rw [q] at h; cases h
theorem name_no {l : List Token} (h : isNameB l = false) : name l = .error (stuckK l, (front l).at_) := by
  have st : (stuck l : Except LsChain.Fault (Bytes × List Token)) = .error (stuckK l, (front l).at_) := rfl
  unfold isNameB at h
  unfold name
  cases q : (front l).tok with
  | word b =>
    rw [q] at h
    have h : KEPT.contains b = true := by simpa using h
    simp only [h, if_true]
    exact st
  | num n => exact st
  | text b => exact st
  | sign c => exact st
  | none_ => exact st
  | over => exact st
theorem ok_Reader_take_name (T : Txt K mg) : Ok P w K mg base (L2.CX P w) 7 ("Reader", some "take_name") ["self"] (spTakeName K) := by
  refine mk_okX T 77 rfl sc_Reader_take_name T.g_Reader (fun _ _ _ _ _ _ us hl => match us, hl with | [_], _ => rfl) len1 (fun cdv A outer s H vs Q E hr h => ?_)
  refine ⟨_, (pss_cons (ps_if (pt_not (pt_val (pe_mX0 (pv 0) T.c_Reader T.h_Reader_sees_name (ok_Reader_sees_name T) hr (takes_of rfl rfl rfl rfl)))) (pss_one (ps_raiseF rfl T hr (takes_of rfl rfl rfl rfl) (pa_cons (pe_cst T.m_CANNOT_STAND) (pa_cons (pe_mX0 (pv 0) T.c_Reader T.h_Reader_place (ok_Reader_place T) hr (takes_of rfl rfl rfl rfl)) pa_nil)))) pss_nil)
      (pss_one (ps_ret (pe_callTy call_tuple_of (by rfl) T.n_tuple (by decide +kernel) (pa_cons (pe_fld (pe_mX0 (pv 0) T.c_Reader T.h_Reader_take (ok_Reader_take T) hr (takes_of rfl rfl rfl rfl)) rfl) pa_nil))))), ?_⟩
  obtain ⟨x0, rfl, h⟩ := h
  obtain ⟨ra, t, l, F, rfl, rd, hy, hn⟩ := h
  obtain ⟨dx, ta, tk0, hra⟩ := rd.ins
  refine ⟨_, rfl, ra, dx, _, rfl, hra, rfl, _, rfl, ra, t, l, F, rfl, rd, fun c => ?_, fun c H1 s1 => ⟨_, rfl, ?_⟩⟩
  · have := hn _ (name_no (by unfold isNameB; rw [c]))
    rwa [show stuckK l = 1 from if_pos c] at this
  · cases q : isNameB l with
    | true =>
      obtain ⟨n, q1, q2⟩ := name_yes q
      have rd1 := rd.more s1
      refine iteF ⟨_, rfl, ra, dx, _, rfl, s1 _ _ hra, rfl, _, rfl, ra, t, l, F, rfl, rd1, by rw [q1]; rfl, fun H2 F2 tk k g r2 hk f1 => ?_⟩
      obtain ⟨kx, ka, j1, j2⟩ := hk
      have rw1 : k.row = n := by
        rw [q1] at f1
        exact f1.2
      refine ⟨tk, _, kx, _, _, rfl, r2.sub _ _ j1, T.c_Token, T.a_Token_row, rfl, ka, _, rfl, .inl ⟨.of (r2.sub _ _ j2), fun na hna => ?_⟩⟩
      have g2 : Gr H2 F2 (upd H2 na (.tup (bV k.row))) (upd F2 na (.tup (bV k.row))) := (Gr.refl r2.sub).put hna
      have r3 : Rdr K (upd H2 na (.tup (bV k.row))) (upd F2 na (.tup (bV k.row))) ra t (l.drop 1) := r2.keep g2.keep g2.fr g2.sub (by
        obtain ⟨_, _, _, hr2⟩ := r2.ins
        rw [upd_ne (ne_some hr2 hna)]
        exact r2.out)
      refine hy n _ q2 _ _ na (((gm_same rd.sub s1).trans g (one_there rd1)).gr g2 (one_there r2)) r3 ?_
      rw [rw1]
      exact upd_same
    | false =>
      refine iteT ⟨_, rfl, ra, dx, _, rfl, s1 _ _ hra, rfl, _, rfl, ra, t, l, F, rfl, rd.more s1, fun c' => absurd c' c, fun _ => ⟨_, _, rfl, fun d hd => ?_⟩⟩
      have f := (hn _ (name_no q)).at (.of s1)
      rw [show stuckK l = 2 from if_neg c] at f
      exact f.go hd
theorem num_no {lo hi : Nat} {l : List Token} (h : kindOf (front l).tok ≠ 3) : num lo hi l = .error (stuckK l, (front l).at_) := by
  have st : (stuck l : Except LsChain.Fault (Nat × List Token)) = .error (stuckK l, (front l).at_) := rfl
  unfold num
  cases q : (front l).tok with
  | num n => rw [q] at h; exact absurd rfl h
  | word b => exact st
  | text b => exact st
  | sign c => exact st
  | none_ => exact st
  | over => exact st
theorem ok_Reader_take_number (T : Txt K mg) : Ok P w K mg base (L2.CX P w) 7 ("Reader", some "take_number") ["self", "least", "top"] (spTakeNumber K) := by
  refine mk_okX T 78 rfl sc_Reader_take_number T.g_Reader (fun _ _ _ _ _ _ us hl => match us, hl with | [_, _, _], _ => rfl) len3 (fun cdv A outer s H vs Q E hr h => ?_)
  refine ⟨_, (pss_cons (ps_if (pt_not (pt_val (pe_mX (pv 0) T.c_Reader T.h_Reader_sees (ok_Reader_sees T) hr (takes_of rfl rfl rfl rfl) (pa_cons (pe_cst T.m_NUMBER) pa_nil)))) (pss_one (ps_raiseF rfl T hr (takes_of rfl rfl rfl rfl) (pa_cons (pe_cst T.m_CANNOT_STAND) (pa_cons (pe_mX0 (pv 0) T.c_Reader T.h_Reader_place (ok_Reader_place T) hr (takes_of rfl rfl rfl rfl)) pa_nil)))) pss_nil)
      (pss_cons (ps_set (i := 3) sc_Reader_take_number.nd rfl (Or.inl rfl) (pe_c (ok_number_of T) hr (pa_cons (pe_fld (pe_mX0 (pv 0) T.c_Reader T.h_Reader_look (ok_Reader_look T) hr (takes_of rfl rfl rfl rfl)) rfl) pa_nil)))
      (pss_cons (ps_if (PW.pt (pw_or (pt_cmpR op_lt (pv 3) (pv 1) (nomark _)) (pw_or1 (pt_cmpR op_gt (pv 3) (pv 2) (nomark _))))) (pss_one (ps_raiseF rfl T hr (takes_of rfl rfl rfl rfl) (pa_cons (pe_cst T.m_NOT_IN_BOUNDS) (pa_cons (pe_mX0 (pv 0) T.c_Reader T.h_Reader_place (ok_Reader_place T) hr (takes_of rfl rfl rfl rfl)) pa_nil)))) pss_nil)
      (pss_cons (ps_expr (pe_mX0 (pv 0) T.c_Reader T.h_Reader_take (ok_Reader_take T) hr (takes_of rfl rfl rfl rfl)))
      (pss_one (ps_ret (pv 3))))))), ?_⟩
  obtain ⟨x0, x1, x2, rfl, h⟩ := h
  obtain ⟨ra, t, l, F, lo, hi, rfl, rfl, rfl, rd, hy, hn⟩ := h
  obtain ⟨dx, ta, tk0, hra⟩ := rd.ins
  refine ⟨_, rfl, ra, dx, _, rfl, hra, rfl, _, _, rfl, ra, t, l, F, 3, rfl, rfl, rd, fun c => ?_, fun c => ⟨_, rfl, ?_⟩⟩
  · have := hn _ (num_no (by rw [c]; decide))
    rwa [show stuckK l = 1 from if_pos c] at this
  · by_cases k3 : kindOf (front l).tok = 3
    · rw [show (kindOf (front l).tok == 3) = true from beq_iff_eq.mpr k3]
      obtain ⟨n, q⟩ : ∃ n, (front l).tok = .num n := by
        cases q : (front l).tok with
        | num n => exact ⟨n, rfl⟩
        | word b => rw [q] at k3; cases k3
        | text b => rw [q] at k3; cases k3
        | sign c => rw [q] at k3; cases k3
        | none_ => rw [q] at k3; cases k3
        | over => rw [q] at k3; cases k3
      refine iteF ⟨_, rfl, ra, dx, _, rfl, hra, rfl, _, rfl, ra, t, l, F, rfl, rd, fun c' => absurd c' c, fun _ tk k hk f1 _ _ => ?_⟩
      obtain ⟨kx, ka, j1, j2⟩ := id hk
      rw [q] at f1
      obtain ⟨_, f2, f3, f4⟩ := f1
      refine ⟨tk, _, kx, _, _, rfl, rd.sub _ _ j1, T.c_Token, T.a_Token_row, rfl, _, rfl, ka, k.row, rfl, .of (rd.sub _ _ j2), f4, ?_⟩
      rw [f2]
      have nq : num lo hi l = if lo ≤ n ∧ n ≤ hi then .ok (n, l.drop 1) else fail 3 l := by
        unfold num
        rw [q]
      refine ⟨_, rfl, _, rfl, _, _, rfl, rfl, _, rfl, ?_⟩
      have bad : ¬ (lo ≤ n ∧ n ≤ hi) → ∀ d : Addr, H d = none → E (.ref (He.ga K "Fault")) (some d) (upd H d (.xd (fFs (.int 3) (.int ((front l).at_ : Int))))) := fun z d hd => by
        rw [if_neg z] at nq
        exact (hn _ nq).go hd
      have good : (lo ≤ n ∧ n ≤ hi) → ∀ H2 F2, Gm (oneM ra) H F H2 F2 → Rdr K H2 F2 ra t (l.drop 1) → Q (.int (n : Int)) H2 := fun z => by
        rw [if_pos z] at nq
        exact hy n _ nq
      by_cases c1 : (n : Int) < (lo : Int)
      · rw [decide_eq_true c1]
        exact iteT (iteT ⟨_, rfl, ra, dx, _, rfl, hra, rfl, _, rfl, ra, t, l, F, rfl, rd, fun c' => absurd c' c, fun _ => ⟨_, _, rfl, fun d hd => bad (by omega) d hd⟩⟩)
      · rw [decide_eq_false c1]
        refine iteF ⟨_, rfl, _, rfl, _, _, rfl, rfl, _, rfl, ?_⟩
        by_cases c2 : (n : Int) > (hi : Int)
        · rw [decide_eq_true c2]
          exact iteT ⟨_, rfl, ra, dx, _, rfl, hra, rfl, _, rfl, ra, t, l, F, rfl, rd, fun c' => absurd c' c, fun _ => ⟨_, _, rfl, fun d hd => bad (by omega) d hd⟩⟩
        · rw [decide_eq_false c2]
          refine iteF ⟨_, rfl, ra, dx, _, rfl, hra, rfl, _, rfl, ra, t, l, F, rfl, rd, by rw [q]; rfl, fun H2 F2 tk k g r2 _ _ => ⟨_, rfl, good (by omega) H2 F2 g r2⟩⟩
    · rw [show (kindOf (front l).tok == 3) = false from beq_eq_false_iff_ne.mpr k3]
      refine iteT ⟨_, rfl, ra, dx, _, rfl, hra, rfl, _, rfl, ra, t, l, F, rfl, rd, fun c' => absurd c' c, fun _ => ⟨_, _, rfl, fun d hd => ?_⟩⟩
      have f := hn _ (num_no k3)
      rw [show stuckK l = 2 from if_neg c] at f
      exact f.go hd
end
end CB
end
section
set_option Elab.async false
set_option linter.all false
set_option maxRecDepth 100000
set_option maxHeartbeats 4000000
namespace CB
open PySem PySem.Spec PyProof.Rows L2
open LsText (Bytes ascii Token numberOf isDigit)
open LsChain (front stuck fail sign isWord word num KEPT name Book)
def Tly (K : PySem.W.Frag) (H F : Hp) (ya sl : Addr) (S : List Bytes) (nl ne : Nat) : Prop := ∃ (dx : Addr) (as : List Addr), H ya = some (.ins (He.ga K "Tally") dx [("stations", .ref sl), ("many_lines", .int (nl : Int)), ("many_entries", .int (ne : Int))]) ∧ F ya = none ∧
  H sl = some (.lst (rV as)) ∧ F sl = none ∧ All2 (IsName F) as S ∧ S.length ≤ 1000
def M3 (ra ya sl : Addr) : Addr → Prop := fun b => b = ra ∨ b = ya ∨ b = sl
def spReaderI (K : PySem.W.Frag) : Sp := sp2 fun p x H Q _ => ∃ (rx dx ta : Addr) (t : Bytes) (F : Hp), p = .ref rx ∧ x = .ref ta ∧ H rx = some (.ins (He.ga K "Reader") dx []) ∧ F ta = some (.lst (bV t)) ∧ t.length ≤ 100000 ∧ Same F H ∧ F rx = none ∧
  ∀ H2 F2, Gm (oneM rx) H F H2 F2 → Rdr K H2 F2 rx t (toks t 0) → Q .non H2
def spTallyI (K : PySem.W.Frag) : Sp := sp2 fun p x H Q _ => ∃ (yx dx a : Addr) (b : Book) (F : Hp), p = .ref yx ∧ x = .ref a ∧ H yx = some (.ins (He.ga K "Tally") dx []) ∧ IsBook K F a b ∧ Same F H ∧ F yx = none ∧
  ∀ H2 F2 sl, Gm (oneM yx) H F H2 F2 → H sl = none → Tly K H2 F2 yx sl (nmsB b) b.lines.length b.entries → Q .non H2
def spAddSt (K : PySem.W.Frag) : Sp := sp2 fun p x H Q _ => ∃ (ya sl na : Addr) (n : Bytes) (S : List Bytes) (nl ne : Nat) (F : Hp), p = .ref ya ∧ x = .ref na ∧ Same F H ∧ Tly K H F ya sl S nl ne ∧ IsName F na n ∧ S.length ≤ 900 ∧
  ∀ H2, Gm (oneM sl) H F H2 F → Tly K H2 F ya sl (S ++ [n]) nl ne → Q .non H2
def spAddLn (K : PySem.W.Frag) : Sp := sp1 fun p H Q _ => ∃ (ya sl : Addr) (S : List Bytes) (nl ne : Nat) (F : Hp), p = .ref ya ∧ Same F H ∧ Tly K H F ya sl S nl ne ∧ ∀ H2, Gm (oneM ya) H F H2 F → Tly K H2 F ya sl S (nl + 1) ne → Q .non H2
def spAddEn (K : PySem.W.Frag) : Sp := sp1 fun p H Q _ => ∃ (ya sl : Addr) (S : List Bytes) (nl ne : Nat) (F : Hp), p = .ref ya ∧ Same F H ∧ Tly K H F ya sl S nl ne ∧ ∀ H2, Gm (oneM ya) H F H2 F → Tly K H2 F ya sl S nl (ne + 1) → Q .non H2
section
variable {P : Program} {w : World} {K : PySem.W.Frag} {mg : Str → Option Value} {base : Heap}
theorem toks0_len (t : Bytes) : 0 ≤ t.length := Nat.zero_le _
theorem ok_Reader___init__ (T : Txt K mg) : Ok P w K mg base CX0 6 ("Reader", some "__init__") ["self", "text"] (spReaderI K) := by
  refine mk_ok T 67 rfl sc_Reader___init__ T.g_Reader (fun _ _ _ _ _ _ us hl => match us, hl with | [_, _], _ => rfl) len2 (fun cdv A outer s H vs Q E hr h => ?_)
  refine ⟨_, (pss_cons (ps_fld (pv 0) (pv 1) rfl)
      (pss_one (ps_fld (pv 0) (pe_c (ok_token_from T) hr (pa_cons (pv 1) (pa_cons pe_int pa_nil))) rfl))), ?_⟩
  obtain ⟨x0, x1, rfl, h⟩ := h
  obtain ⟨rx, dx, ta, t, F, rfl, rfl, hrx, fta, hl, hF, frx, h⟩ := h
  refine ⟨_, rfl, _, rfl, rx, _, dx, _, rfl, hrx, T.c_Reader, T.a_Reader_text, few few0, ?_⟩
  have g0 : Gm (oneM rx) H F (upd H rx (.ins (He.ga K "Reader") dx [("text", .ref ta)])) F := (Gm.refl hF).set rfl frx
  refine ⟨_, rfl, _, _, rfl, ta, t, 0, F, rfl, .of (g0.sub _ _ fta), hl, rfl, Nat.zero_le _, g0.sub, ?_⟩
  rintro _ H2 F2 g ⟨nt, rfl, hn⟩
  have hr2 : H2 rx = some (.ins (He.ga K "Reader") dx [("text", .ref ta)]) := g.keep _ _ upd_same
  have fr2 : F2 rx = none := (g.new _ _ upd_same).trans frx
  refine ⟨_, rfl, rx, _, dx, _, rfl, hr2, T.c_Reader, T.a_Reader_token, (by show 1 < 1000; decide), ?_⟩
  have m : ∀ b, oneM rx b → ∃ u, upd H rx (.ins (He.ga K "Reader") dx [("text", .ref ta)]) b = some u := fun b e => by
    rw [show b = rx from e]
    exact ⟨_, upd_same⟩
  have g3 := (g0.gr g m).set (o := .ins (He.ga K "Reader") dx [("text", .ref ta), ("token", .ref nt)]) (p := rx) rfl fr2
  exact h _ F2 g3 ⟨0, dx, ta, nt, Nat.zero_le _, hl, rfl, upd_same, fr2, g.fr _ _ fta, hn, g3.sub⟩
theorem ok_Tally_add_station (T : Txt K mg) : Ok P w K mg base CX0 1 ("Tally", some "add_station") ["self", "name"] (spAddSt K) := by
  refine mk_ok T 64 rfl sc_Tally_add_station T.g_Tally (fun _ _ _ _ _ _ us hl => match us, hl with | [_, _], _ => rfl) len2 (fun cdv A outer s H vs Q E hr h => ?_)
  refine ⟨_, (pss_one (ps_expr (pe_bm PySem.F.plainAttrs_list PySem.F.slot_list_append PySem.F.type_list_append mt_append (pe_fld (pv 0) rfl) (pa_cons (pv 1) pa_nil)))), ?_⟩
  obtain ⟨x0, x1, rfl, h⟩ := h
  obtain ⟨ya, sl, na, n, S, nl, ne, F, rfl, rfl, hF, ⟨dx, as, h1, h2, h3, h4, h5, h6⟩, hn, hS, h⟩ := h
  have nys : ya ≠ sl := fun z => by rw [z, h3] at h1; cases h1
  refine ⟨_, rfl, ya, _, dx, _, _, rfl, h1, T.c_Tally, T.a_Tally_stations, rfl, .inl ⟨rfl, _, SqL.of h3⟩, _, rfl, sl, _, _, rfl, rfl, h3, ?_, ?_⟩
  · rw [rV_len, h5.len]
    exact small_line (by omega)
  have g := (Gm.refl (M := oneM sl) hF).set (o := .lst (rV as ++ [V.ref na])) (p := sl) rfl h4
  refine h _ g ⟨dx, as ++ [na], ?_, h2, ?_, h4, h5.snoc hn, ?_⟩
  · rw [upd_ne nys]
    exact h1
  · rw [upd_same, rV_snoc]
  · rw [List.length_append, List.length_singleton]
    omega
theorem ok_Tally_add_line (T : Txt K mg) : Ok P w K mg base CX0 1 ("Tally", some "add_line") ["self"] (spAddLn K) := by
  refine mk_ok T 65 rfl sc_Tally_add_line T.g_Tally (fun _ _ _ _ _ _ us hl => match us, hl with | [_], _ => rfl) len1 (fun cdv A outer s H vs Q E hr h => ?_)
  refine ⟨_, (pss_one (ps_fldaug (pv 0) pe_int in_add)), ?_⟩
  obtain ⟨x0, rfl, h⟩ := h
  obtain ⟨ya, sl, S, nl, ne, F, rfl, hF, ⟨dx, as, h1, h2, h3, h4, h5, h6⟩, h⟩ := h
  have nys : sl ≠ ya := fun z => by rw [z] at h3; rw [h3] at h1; cases h1
  have g := (Gm.refl (M := oneM ya) hF).set (o := .ins (He.ga K "Tally") dx [("stations", .ref sl), ("many_lines", .int ((nl + 1 : Nat) : Int)), ("many_entries", .int (ne : Int))]) (p := ya) rfl h2
  have q := h _ g ⟨dx, as, upd_same, h2, by rw [upd_ne nys]; exact h3, h4, h5, h6⟩
  exact ⟨_, rfl, ya, _, dx, _, _, rfl, h1, T.c_Tally, T.a_Tally_many_lines, rfl, _, _, rfl, rfl, dx, _, h1, (by show 3 < 1000; decide), q⟩
theorem ok_Tally_add_entry (T : Txt K mg) : Ok P w K mg base CX0 1 ("Tally", some "add_entry") ["self"] (spAddEn K) := by
  refine mk_ok T 66 rfl sc_Tally_add_entry T.g_Tally (fun _ _ _ _ _ _ us hl => match us, hl with | [_], _ => rfl) len1 (fun cdv A outer s H vs Q E hr h => ?_)
  refine ⟨_, (pss_one (ps_fldaug (pv 0) pe_int in_add)), ?_⟩
  obtain ⟨x0, rfl, h⟩ := h
  obtain ⟨ya, sl, S, nl, ne, F, rfl, hF, ⟨dx, as, h1, h2, h3, h4, h5, h6⟩, h⟩ := h
  have nys : sl ≠ ya := fun z => by rw [z] at h3; rw [h3] at h1; cases h1
  have g := (Gm.refl (M := oneM ya) hF).set (o := .ins (He.ga K "Tally") dx [("stations", .ref sl), ("many_lines", .int (nl : Int)), ("many_entries", .int ((ne + 1 : Nat) : Int))]) (p := ya) rfl h2
  have q := h _ g ⟨dx, as, upd_same, h2, by rw [upd_ne nys]; exact h3, h4, h5, h6⟩
  exact ⟨_, rfl, ya, _, dx, _, _, rfl, h1, T.c_Tally, T.a_Tally_many_entries, rfl, _, _, rfl, rfl, dx, _, h1, (by show 3 < 1000; decide), q⟩
theorem ok_Tally___init__ (T : Txt K mg) : Ok P w K mg base CX0 3 ("Tally", some "__init__") ["self", "book"] (spTallyI K) := by
  refine mk_ok T 63 rfl sc_Tally___init__ T.g_Tally (fun _ _ _ _ _ _ us hl => match us, hl with | [_, _], _ => rfl) len2 (fun cdv A outer s H vs Q E hr h => ?_)
  refine ⟨_, (pss_cons (ps_fld (pv 0) (pe_c (ok_names_set T) hr (pa_cons (pv 1) pa_nil)) rfl)
      (pss_cons (ps_fld (pv 0) (pe_callB call_len (by rfl) T.n_len (by decide +kernel) (pa_cons (pe_c (ok_lines_of T) hr (pa_cons (pv 1) pa_nil)) pa_nil)) rfl)
      (pss_one (ps_fld (pv 0) (pe_callB call_len (by rfl) T.n_len (by decide +kernel) (pa_cons (pe_c (ok_entries_of T) hr (pa_cons (pv 1) pa_nil)) pa_nil)) rfl)))), ?_⟩
  obtain ⟨x0, x1, rfl, h⟩ := h
  obtain ⟨yx, dx, a, b, F, rfl, rfl, hyx, hb, hF, fyx, h⟩ := h
  have wf := hb.1
  refine ⟨_, rfl, _, rfl, a, b, F, rfl, hb, hF, fun sl H1 as hsl s1 e1 hn => ?_⟩
  have h1 := s1 _ _ hyx
  refine ⟨_, rfl, yx, _, dx, _, rfl, h1, T.c_Tally, T.a_Tally_stations, few few0, ?_⟩
  have g1 : Gm (oneM yx) H F H1 F := gm_same hF s1
  have g2 := g1.set (o := .ins (He.ga K "Tally") dx [("stations", .ref sl)]) (p := yx) rfl fyx
  have ny : sl ≠ yx := fun z => by rw [z, hyx] at hsl; cases hsl
  refine ⟨_, rfl, _, rfl, a, b, F, rfl, hb, g2.sub, fun la H3 ls hla s3 e3 hls => ?_⟩
  refine ⟨_, _, rfl, .inl ⟨_, .of e3, rfl⟩, ?_⟩
  have h3 := s3 _ _ (upd_same (H := H1) (a := yx) (o := .ins (He.ga K "Tally") dx [("stations", .ref sl)]))
  refine ⟨_, rfl, yx, _, dx, _, rfl, h3, T.c_Tally, T.a_Tally_many_lines, few (fw few0), ?_⟩
  have m : ∀ {H : Hp} {o : HO}, H yx = some o → ∀ b, oneM yx b → ∃ u, H b = some u := fun h b e => by
    rw [show b = yx from e]
    exact ⟨_, h⟩
  have g3 : Gm (oneM yx) H F H3 F := g2.trans (gm_same g2.sub s3) (m upd_same)
  have e4 : (rV ls).length = b.lines.length := by rw [rV_len, hls.len]
  have g4 := g3.set (o := .ins (He.ga K "Tally") dx [("stations", .ref sl), ("many_lines", .int ((rV ls).length : Int))]) (p := yx) rfl fyx
  refine ⟨_, rfl, _, rfl, a, b, F, rfl, hb, g4.sub, ?_⟩
  rintro _ H5 F5 g5 ⟨pa, ps, rfl, hpa, hps⟩
  have h5 := g5.keep _ _ (upd_same (H := H3) (a := yx) (o := .ins (He.ga K "Tally") dx [("stations", .ref sl), ("many_lines", .int ((rV ls).length : Int))]))
  have f5 : F5 yx = none := (g5.new _ _ upd_same).trans fyx
  refine ⟨_, _, rfl, .inl ⟨_, .of (g5.sub _ _ hpa), rfl⟩, ?_⟩
  refine ⟨_, rfl, yx, _, dx, _, rfl, h5, T.c_Tally, T.a_Tally_many_entries, (by show 2 < 1000; decide), ?_⟩
  have e6 : (rV ps).length = b.entries := by rw [rV_len, hps.len, entries_len]
  have g6 := (g4.gr g5 (m upd_same)).set (o := .ins (He.ga K "Tally") dx [("stations", .ref sl), ("many_lines", .int ((rV ls).length : Int)), ("many_entries", .int ((rV ps).length : Int))]) (p := yx) rfl f5
  refine h _ F5 sl g6 hsl ⟨dx, as, ?_, f5, ?_, ?_, ?_, ?_⟩
  · rw [← e4, ← e6]
    exact upd_same
  · have e1' : upd H1 yx (.ins (He.ga K "Tally") dx [("stations", .ref sl)]) sl = some (.lst (rV as)) := by rw [upd_ne ny]; exact e1
    have e3' := s3 _ _ e1'
    rw [upd_ne ny]
    refine g5.keep _ _ ?_
    rw [upd_ne ny]
    exact e3'
  · have e1' : upd H1 yx (.ins (He.ga K "Tally") dx [("stations", .ref sl)]) sl = some (.lst (rV as)) := by rw [upd_ne ny]; exact e1
    have e3' : upd H3 yx (.ins (He.ga K "Tally") dx [("stations", .ref sl), ("many_lines", .int ((rV ls).length : Int))]) sl = some (.lst (rV as)) := by
      rw [upd_ne ny]
      exact s3 _ _ e1'
    exact (g5.new _ _ e3').trans (hF.free hsl)
  · exact hn.imp fun _ _ => IsName.mono (g5.fr)
  · have := wf.s64
    unfold nmsB
    rw [List.length_map]
    omega
end
end CB
end
section
set_option Elab.async false
set_option linter.all false
set_option maxRecDepth 100000
set_option maxHeartbeats 4000000
namespace CB
open PySem PySem.Spec PyProof.Rows L2
open LsText (Bytes ascii Token numberOf isDigit)
open LsChain (front stuck fail sign isWord word num KEPT name Book beside newName knownIn unitIn)
structure RT (K : PySem.W.Frag) (H F : Hp) (ra ya sl : Addr) (t : Bytes) (l : List Token) (S : List Bytes) (nl ne : Nat) : Prop where
  rd : Rdr K H F ra t l
  ty : Tly K H F ya sl S nl ne
section
variable {K : PySem.W.Frag} {H F H2 F2 H3 F3 : Hp} {ra ya sl : Addr} {t : Bytes} {l r : List Token} {S : List Bytes} {nl ne : Nat}
theorem one_in : ∀ b, oneM ra b → M3 ra ya sl b := fun b e => .inl e
theorem one_ya : ∀ b, oneM ya b → M3 ra ya sl b := fun b e => .inr (.inl e)
theorem one_sl : ∀ b, oneM sl b → M3 ra ya sl b := fun b e => .inr (.inr e)
theorem RT.there (h : RT K H F ra ya sl t l S nl ne) : ∀ b, M3 ra ya sl b → ∃ u, H b = some u := fun b e => by
  obtain ⟨dx, ta, tk, h1⟩ := h.rd.ins
  obtain ⟨dy, as, k1, k2, k3, _⟩ := h.ty
  rcases e with rfl | rfl | rfl
  · exact ⟨_, h1⟩
  · exact ⟨_, k1⟩
  · exact ⟨_, k3⟩
theorem RT.diff (h : RT K H F ra ya sl t l S nl ne) : ya ≠ ra ∧ sl ≠ ra ∧ ya ≠ sl := by
  obtain ⟨dx, ta, tk, h1⟩ := h.rd.ins
  obtain ⟨dy, as, k1, k2, k3, _⟩ := h.ty
  refine ⟨fun z => ?_, fun z => ?_, fun z => ?_⟩
  · rw [z, h1] at k1
    have := Option.some.inj k1
    injection this with _ _ e
    have := congrArg List.length e
    cases this
  · rw [z, h1] at k3
    cases k3
  · rw [z, k3] at k1
    cases k1
/-- the reader has gone on -/
theorem RT.go (h : RT K H F ra ya sl t l S nl ne) (g : Gm (oneM ra) H F H2 F2) (r2 : Rdr K H2 F2 ra t r) : RT K H2 F2 ra ya sl t r S nl ne := by
  obtain ⟨n1, n2, n3⟩ := h.diff
  obtain ⟨dy, as, k1, k2, k3, k4, k5, k6⟩ := h.ty
  exact ⟨r2, dy, as, g.keep _ _ n1 k1, (g.new _ _ k1).trans k2, g.keep _ _ n2 k3, (g.new _ _ k3).trans k4, k5.imp fun _ _ => IsName.mono g.fr, k6⟩
theorem RT.gr (h : RT K H F ra ya sl t l S nl ne) (g : Gr H F H2 F2) : RT K H2 F2 ra ya sl t l S nl ne := by
  obtain ⟨dx, ta, tk, h1⟩ := h.rd.ins
  exact h.go (Gm.of g) (h.rd.keep g.keep g.fr g.sub ((g.new _ _ h1).trans h.rd.out))
theorem RT.same (h : RT K H F ra ya sl t l S nl ne) (s : Same H H2) : RT K H2 F ra ya sl t l S nl ne := h.go (gm_same h.rd.sub s) (h.rd.more s)
/-- the tally has gone on -/
theorem Rdr.tly {M : Addr → Prop} (h : Rdr K H F ra t l) (g : Gm M H F H2 F) (n : ¬ M ra) : Rdr K H2 F ra t l := by
  obtain ⟨p, dx, ta, tk, h1, h2, h3, h4, h5, h6, h7, h8⟩ := h
  exact ⟨p, dx, ta, tk, h1, h2, h3, g.keep _ _ n h4, h5, h6, h7, g.sub⟩
theorem Gm.to3 (g : Gm (oneM ra) H F H2 F2) : Gm (M3 ra ya sl) H F H2 F2 := g.mono one_in
theorem FailP.in1 {k a : Nat} {E : XK} (f : FailP K (M3 ra ya sl) k a H E) (s : Keep (M3 ra ya sl) H H2) : FailP K (oneM ra) k a H2 E := f.mono one_in s
end
/-- what a reading def promises by the spec's reading -/
def spBeside (K : PySem.W.Frag) : Sp := sp1 fun x H Q E => ∃ (ra : Addr) (t : Bytes) (l : List Token) (F : Hp), x = .ref ra ∧ Rdr K H F ra t l ∧ ((front l).tok = .none_ → FailP K (oneM ra) 1 (front l).at_ H E) ∧
  (∀ e, beside l = .error e → FailP K (oneM ra) e.1 e.2 H E) ∧ (∀ o r, beside l = .ok (o, r) → ∀ H2 F2, Gm (oneM ra) H F H2 F2 → Rdr K H2 F2 ra t r → Q (.int o) H2)
def spReadUnit (K : PySem.W.Frag) : Sp := sp1 fun x H Q E => ∃ (ra : Addr) (t : Bytes) (l : List Token) (b : Book) (F : Hp), x = .ref ra ∧ Rdr K H F ra t l ∧ (front l).tok = .word (ascii "unit") ∧
  (∀ e, unitIn b (l.drop 1) = .error e → FailP K (oneM ra) e.1 e.2 H E) ∧ (∀ p q r, unitIn b (l.drop 1) = .ok (⟨some (p, q), b.told⟩, r) → ∀ H2 F2 ta, Gm (oneM ra) H F H2 F2 → Rdr K H2 F2 ra t r → H2 ta = some (.tup [.int (p : Int), .int (q : Int)]) → Q (.ref ta) H2)
def spNewSt (K : PySem.W.Frag) : Sp := sp2 fun x y H Q E => ∃ (ra ya sl : Addr) (t : Bytes) (l : List Token) (b : Book) (nl ne : Nat) (F : Hp), x = .ref ra ∧ y = .ref ya ∧ RT K H F ra ya sl t l (nmsB b) nl ne ∧
  (∀ e, newName b l = .error e → FailP K (M3 ra ya sl) e.1 e.2 H E) ∧ (∀ n r, newName b l = .ok (n, r) → ∀ H2 F2 na, Gm (M3 ra ya sl) H F H2 F2 → RT K H2 F2 ra ya sl t r (nmsB b ++ [n]) nl ne → IsName F2 na n → Q (.ref na) H2)
section
variable {P : Program} {w : World} {K : PySem.W.Frag} {mg : Str → Option Value} {base : Heap}
theorem word_is (w : String) (l : List Token) : isWord w l = decide ((front l).tok = .word (ascii w)) := rfl
theorem ok_read_beside (T : Txt K mg) : Ok P w K mg base (L2.CX P w) 8 ("read_beside", none) ["reader"] (spBeside K) := by
  refine mk_okX T 87 rfl sc_read_beside T.g_read_beside (fun _ _ _ _ _ _ us hl => match us, hl with | [_], _ => rfl) len1 (fun cdv A outer s H vs Q E hr h => ?_)
  refine ⟨_, (pss_cons (ps_if (pt_val (pe_mX (pv 0) T.c_Reader T.h_Reader_sees_word (ok_Reader_sees_word T) hr (takes_of rfl rfl rfl rfl) (pa_cons pe_str pa_nil))) (pss_cons (ps_expr (pe_mX (pv 0) T.c_Reader T.h_Reader_take_word (ok_Reader_take_word T) hr (takes_of rfl rfl rfl rfl) (pa_cons pe_str pa_nil)))
      (pss_one (ps_ret (pe_mX (pv 0) T.c_Reader T.h_Reader_take_number (ok_Reader_take_number T) hr (takes_of rfl rfl rfl rfl) (pa_cons pe_int (pa_cons (pe_cst T.m_TOP_BESIDE) pa_nil)))))) pss_nil)
      (pss_cons (ps_if (pt_val (pe_mX (pv 0) T.c_Reader T.h_Reader_sees_word (ok_Reader_sees_word T) hr (takes_of rfl rfl rfl rfl) (pa_cons pe_str pa_nil))) (pss_cons (ps_expr (pe_mX (pv 0) T.c_Reader T.h_Reader_take_word (ok_Reader_take_word T) hr (takes_of rfl rfl rfl rfl) (pa_cons pe_str pa_nil)))
      (pss_one (ps_ret (pe_un un_neg (pe_mX (pv 0) T.c_Reader T.h_Reader_take_number (ok_Reader_take_number T) hr (takes_of rfl rfl rfl rfl) (pa_cons pe_int (pa_cons (pe_cst T.m_TOP_BESIDE) pa_nil))))))) pss_nil)
      (pss_one (ps_ret pe_int)))), ?_⟩
  obtain ⟨x0, rfl, h⟩ := h
  obtain ⟨ra, t, l, F, rfl, rd, hn, he, ho⟩ := h
  obtain ⟨dx, ta, tk0, hra⟩ := rd.ins
  refine ⟨_, rfl, ra, dx, _, rfl, hra, rfl, _, _, rfl, ra, t, l, F, _, ascii "left", rfl, rfl, st_lit, by decide, rd, hn, fun c H1 s1 => ⟨_, rfl, ?_⟩⟩
  have rd1 := rd.more s1
  by_cases q : (front l).tok = .word (ascii "left")
  · rw [decide_eq_true q]
    refine iteT ⟨_, rfl, ra, dx, _, rfl, s1 _ _ hra, rfl, _, _, rfl, ra, t, l, F, _, ascii "left", rfl, rfl, st_lit, by decide, rd1, fun _ H2 F2 g2 r2 => ?_, fun z => absurd q z⟩
    obtain ⟨dx2, ta2, tk2, hra2⟩ := r2.ins
    have bl : beside l = match num 1 10000 (l.drop 1) with
        | .error e => .error e
        | .ok (o, r) => .ok ((o : Int), r) := by
      unfold LsChain.beside
      rw [word_is, decide_eq_true q, if_pos rfl]
      rfl
    have g := (gm_same (M := oneM ra) rd.sub s1).trans g2 (one_there rd1)
    refine ⟨_, rfl, ra, dx2, _, rfl, hra2, rfl, _, _, _, rfl, ra, t, l.drop 1, F2, 1, 10000, rfl, rfl, rfl, r2, fun n r hk H3 F3 g3 r3 => ?_, fun e hk => ?_⟩
    · rw [hk] at bl
      exact ho _ _ bl H3 F3 (g.trans g3 (one_there r2)) r3
    · rw [hk] at bl
      exact (he _ bl).at g.keep
  · rw [decide_eq_false q]
    refine iteF ⟨_, rfl, ra, dx, _, rfl, s1 _ _ hra, rfl, _, _, rfl, ra, t, l, F, _, ascii "right", rfl, rfl, st_lit, by decide, rd1, fun c' => absurd c' c, fun _ H2 s2 => ⟨_, rfl, ?_⟩⟩
    have rd2 := rd1.more s2
    have s12 := s1.trans s2
    by_cases q2 : (front l).tok = .word (ascii "right")
    · rw [decide_eq_true q2]
      refine iteT ⟨_, rfl, ra, dx, _, rfl, s12 _ _ hra, rfl, _, _, rfl, ra, t, l, F, _, ascii "right", rfl, rfl, st_lit, by decide, rd2, fun _ H3 F3 g3 r3 => ?_, fun z => absurd q2 z⟩
      obtain ⟨dx2, ta2, tk2, hra2⟩ := r3.ins
      have bl : beside l = match num 1 10000 (l.drop 1) with
          | .error e => .error e
          | .ok (o, r) => .ok (-(o : Int), r) := by
        unfold LsChain.beside
        rw [word_is, word_is, decide_eq_false q, decide_eq_true q2, if_neg Bool.false_ne_true, if_pos rfl]
        rfl
      have g := (gm_same (M := oneM ra) rd.sub s12).trans g3 (one_there rd2)
      refine ⟨_, rfl, ra, dx2, _, rfl, hra2, rfl, _, _, _, rfl, ra, t, l.drop 1, F3, 1, 10000, rfl, rfl, rfl, r3, fun n r hk H4 F4 g4 r4 => ?_, fun e hk => ?_⟩
      · rw [hk] at bl
        exact ⟨_, rfl, ho _ _ bl H4 F4 (g.trans g4 (one_there r3)) r4⟩
      · rw [hk] at bl
        exact (he _ bl).at g.keep
    · rw [decide_eq_false q2]
      have bl : beside l = .ok (0, l) := by
        unfold LsChain.beside
        rw [word_is, word_is, decide_eq_false q, decide_eq_false q2, if_neg Bool.false_ne_true, if_neg Bool.false_ne_true]
      exact iteF (ho _ _ bl H2 F (gm_same rd.sub s12) rd2)
theorem ok_read_unit (T : Txt K mg) : Ok P w K mg base (L2.CX P w) 8 ("read_unit", none) ["reader"] (spReadUnit K) := by
  refine mk_okX T 80 rfl sc_read_unit T.g_read_unit (fun _ _ _ _ _ _ us hl => match us, hl with | [_], _ => rfl) len1 (fun cdv A outer s H vs Q E hr h => ?_)
  refine ⟨_, (pss_cons (ps_expr (pe_mX (pv 0) T.c_Reader T.h_Reader_take_word (ok_Reader_take_word T) hr (takes_of rfl rfl rfl rfl) (pa_cons pe_str pa_nil)))
      (pss_cons (ps_set (i := 1) sc_read_unit.nd rfl (Or.inl rfl) (pe_mX (pv 0) T.c_Reader T.h_Reader_take_number (ok_Reader_take_number T) hr (takes_of rfl rfl rfl rfl) (pa_cons pe_int (pa_cons (pe_cst T.m_TOP_UNIT) pa_nil))))
      (pss_cons (ps_expr (pe_mX (pv 0) T.c_Reader T.h_Reader_take_sign (ok_Reader_take_sign T) hr (takes_of rfl rfl rfl rfl) (pa_cons (pe_cst T.m_SLASH) pa_nil)))
      (pss_cons (ps_set (i := 2) sc_read_unit.nd rfl (Or.inl rfl) (pe_mX (pv 0) T.c_Reader T.h_Reader_take_number (ok_Reader_take_number T) hr (takes_of rfl rfl rfl rfl) (pa_cons pe_int (pa_cons (pe_cst T.m_TOP_UNIT) pa_nil))))
      (pss_cons (ps_expr (pe_mX (pv 0) T.c_Reader T.h_Reader_take_sign (ok_Reader_take_sign T) hr (takes_of rfl rfl rfl rfl) (pa_cons (pe_cst T.m_SEMICOLON) pa_nil)))
      (pss_one (ps_ret (pe_tup (pa_cons (pv 1) (pa_cons (pv 2) pa_nil)))))))))), ?_⟩
  obtain ⟨x0, rfl, h⟩ := h
  obtain ⟨ra, t, l, b, F, rfl, rd, q, he, ho⟩ := h
  obtain ⟨dx, ta, tk0, hra⟩ := rd.ins
  refine ⟨_, rfl, ra, dx, _, rfl, hra, rfl, _, _, rfl, ra, t, l, F, _, ascii "unit", rfl, rfl, st_lit, by decide, rd, fun _ H1 F1 g1 r1 => ?_, fun z => absurd q z⟩
  obtain ⟨dx1, ta1, tk1, hra1⟩ := r1.ins
  have uin : unitIn b (l.drop 1) = match num 1 1000000 (l.drop 1) with
      | .error e => .error e
      | .ok (p, r) => match sign 47 r with
        | .error e => .error e
        | .ok s => match num 1 1000000 s with
          | .error e => .error e
          | .ok (q, u) => match sign 59 u with
            | .error e => .error e
            | .ok z => .ok (⟨some (p, q), b.told⟩, z) := rfl
  refine ⟨_, rfl, ra, dx1, _, rfl, hra1, rfl, _, _, _, rfl, ra, t, l.drop 1, F1, 1, 1000000, rfl, rfl, rfl, r1, fun n1 l2 e1 H2 F2 g2 r2 => ?_, fun e hk => ?_⟩
  rotate_left
  · rw [hk] at uin
    exact (he _ uin).at g1.keep
  rw [e1] at uin
  simp only at uin
  obtain ⟨dx2, ta2, tk2, hra2⟩ := r2.ins
  have g12 := g1.trans g2 (one_there r1)
  refine ⟨_, rfl, ra, dx2, _, rfl, hra2, rfl, _, _, rfl, ra, t, l2, F2, 47, rfl, rfl, r2, fun q2 H3 F3 g3 r3 => ?_, fun z => ?_⟩
  rotate_left
  · have e : sign 47 l2 = .error (stuckK l2, (front l2).at_) := if_neg z
    rw [e] at uin
    exact (he _ uin).at g12.keep
  have e2 : sign 47 l2 = .ok (l2.drop 1) := if_pos q2
  rw [e2] at uin
  simp only at uin
  obtain ⟨dx3, ta3, tk3, hra3⟩ := r3.ins
  have g13 := g12.trans g3 (one_there r2)
  refine ⟨_, rfl, ra, dx3, _, rfl, hra3, rfl, _, _, _, rfl, ra, t, l2.drop 1, F3, 1, 1000000, rfl, rfl, rfl, r3, fun n2 l4 e3 H4 F4 g4 r4 => ?_, fun e hk => ?_⟩
  rotate_left
  · rw [hk] at uin
    exact (he _ uin).at g13.keep
  rw [e3] at uin
  simp only at uin
  obtain ⟨dx4, ta4, tk4, hra4⟩ := r4.ins
  have g14 := g13.trans g4 (one_there r3)
  refine ⟨_, rfl, ra, dx4, _, rfl, hra4, rfl, _, _, rfl, ra, t, l4, F4, 59, rfl, rfl, r4, fun q4 H5 F5 g5 r5 => ?_, fun z => ?_⟩
  rotate_left
  · have e : sign 59 l4 = .error (stuckK l4, (front l4).at_) := if_neg z
    rw [e] at uin
    exact (he _ uin).at g14.keep
  have e4 : sign 59 l4 = .ok (l4.drop 1) := if_pos q4
  rw [e4] at uin
  simp only at uin
  have g15 := g14.trans g5 (one_there r4)
  refine ⟨_, rfl, _, rfl, (by show 2 ≤ sizeLine; decide), fun p hp => ?_⟩
  exact ho _ _ _ uin _ F5 p (g15.trans (gm_same r5.sub (same_upd hp)) (one_there r5)) (r5.more (same_upd hp)) upd_same
theorem ok_read_new_station (T : Txt K mg) : Ok P w K mg base (L2.CX P w) 8 ("read_new_station", none) ["reader", "tally"] (spNewSt K) := by
  refine mk_okX T 81 rfl sc_read_new_station T.g_read_new_station (fun _ _ _ _ _ _ us hl => match us, hl with | [_, _], _ => rfl) len2 (fun cdv A outer s H vs Q E hr h => ?_)
  refine ⟨_, (pss_cons (ps_set (i := 2) sc_read_new_station.nd rfl (Or.inl rfl) (pe_mX0 (pv 0) T.c_Reader T.h_Reader_place (ok_Reader_place T) hr (takes_of rfl rfl rfl rfl)))
      (pss_cons (ps_set (i := 3) sc_read_new_station.nd rfl (Or.inl rfl) (pe_mX0 (pv 0) T.c_Reader T.h_Reader_take_name (ok_Reader_take_name T) hr (takes_of rfl rfl rfl rfl)))
      (pss_cons (ps_if (pt_cmpR op_ge (pe_callB call_len (by rfl) T.n_len (by decide +kernel) (pa_cons (pe_fld (pv 1) rfl) pa_nil)) (pe_cst T.m_MOST_STATIONS) (nomark _)) (pss_one (ps_raiseF rfl T hr (takes_of rfl rfl rfl rfl) (pa_cons (pe_cst T.m_TOO_MANY) (pa_cons (pv 2) pa_nil)))) pss_nil)
      (pss_cons (ps_if (pt_cmpR (op_inD (hu65 hr)) (pv 3) (pe_fld (pv 1) rfl) (by rfl)) (pss_one (ps_raiseF rfl T hr (takes_of rfl rfl rfl rfl) (pa_cons (pe_cst T.m_SET_ALREADY) (pa_cons (pv 2) pa_nil)))) pss_nil)
      (pss_cons (ps_expr (pe_m (pv 1) T.c_Tally T.h_Tally_add_station (ok_Tally_add_station T) hr (pa_cons (pv 3) pa_nil)))
      (pss_one (ps_ret (pv 3)))))))), ?_⟩
  obtain ⟨x0, x1, rfl, h⟩ := h
  obtain ⟨ra, ya, sl, t, l, b, nl, ne, F, rfl, rfl, st, he, ho⟩ := h
  have rd := st.rd
  obtain ⟨dx, ta, tk0, hra⟩ := rd.ins
  have nn : newName b l = match name l with
      | .error e => .error e
      | .ok (n, r) => if 64 ≤ b.sets.length then fail 6 l else if b.isSet n = true then fail 4 l else .ok (n, r) := rfl
  refine ⟨_, rfl, ra, dx, _, rfl, hra, rfl, _, rfl, ra, t, l, F, rfl, rd, fun c => ?_, fun c => ?_⟩
  · have e : name l = .error (stuckK l, (front l).at_) := name_no (by unfold isNameB; rw [c])
    rw [e] at nn
    have := (he _ nn).in1 (.of (Same.refl _))
    rwa [show stuckK l = 1 from if_pos c] at this
  refine ⟨_, rfl, ra, dx, _, rfl, hra, rfl, _, rfl, ra, t, l, F, rfl, rd, fun n r e1 H2 F2 na g2 r2 hna => ?_, fun e hk => ?_⟩
  rotate_left
  · rw [hk] at nn
    exact (he _ nn).in1 (.of (Same.refl _))
  rw [e1] at nn
  simp only at nn
  have st2 := st.go g2 r2
  obtain ⟨dy, as, k1, k2, k3, k4, k5, k6⟩ := id st2.ty
  refine ⟨_, rfl, ya, _, dy, _, _, rfl, k1, T.c_Tally, T.a_Tally_stations, rfl, _, _, rfl, .inl ⟨_, .of k3, rfl⟩, _, _, rfl, rfl, _, rfl, ?_⟩
  have ln : (rV as).length = b.sets.length := by rw [rV_len, k5.len, nms_len]
  by_cases c64 : 64 ≤ b.sets.length
  · rw [decide_eq_true (show ((rV as).length : Int) ≥ 64 by omega)]
    rw [if_pos c64] at nn
    exact iteT ⟨_, rfl, _, _, rfl, fun d hd => ((he _ nn).at (g2.to3.keep)).go hd⟩
  · rw [decide_eq_false (show ¬ ((rV as).length : Int) ≥ 64 by omega)]
    rw [if_neg c64] at nn
    refine iteF ⟨_, rfl, _, rfl, ya, _, dy, _, _, rfl, k1, T.c_Tally, T.a_Tally_stations, rfl, ?_⟩
    refine ⟨nmD n, (nmsB b).map nmD, IsName.dp (hna.mono r2.sub), dp_names (.of k3) (k5.imp fun _ _ => IsName.mono r2.sub), nmD_shaped n, nms_shaped _, ?_⟩
    rw [nms_any, ← isSet_is]
    refine ⟨_, rfl, ?_⟩
    cases z : b.isSet n with
    | true =>
      rw [z, if_pos rfl] at nn
      exact iteT ⟨_, rfl, _, _, rfl, fun d hd => ((he _ nn).at (g2.to3.keep)).go hd⟩
    | false =>
      rw [z, if_neg Bool.false_ne_true] at nn
      obtain ⟨n1, n2, n3⟩ := st2.diff
      refine iteF ⟨_, rfl, ya, dy, _, rfl, k1, rfl, _, rfl, _, _, rfl, ya, sl, na, n, nmsB b, nl, ne, F2, rfl, rfl, r2.sub, st2.ty, hna, by rw [nms_len]; omega, fun H3 g3 ty3 => ?_⟩
      exact ⟨_, rfl, ho n r nn H3 F2 na (g2.to3.trans (g3.mono one_sl) st2.there) ⟨r2.tly g3 (fun z => n2 (Eq.symm z)), ty3⟩ hna⟩
end
end CB
end
section
set_option Elab.async false
set_option linter.all false
set_option maxRecDepth 100000
set_option maxHeartbeats 4000000
namespace CB
open PySem PySem.Spec PyProof.Rows L2
open LsText (Bytes ascii Token numberOf isDigit)
open LsChain (front stuck fail sign isWord word num KEPT name Book beside newName knownIn unitIn Told entry)
theorem sign_no {c : UInt8} {l : List Token} (h : (front l).tok ≠ .sign c) : sign c l = .error (stuckK l, (front l).at_) := if_neg h
theorem sign_yes {c : UInt8} {l : List Token} (h : (front l).tok = .sign c) : sign c l = .ok (l.drop 1) := if_pos h
theorem word_no {w : String} {l : List Token} (h : (front l).tok ≠ .word (ascii w)) : word w l = .error (stuckK l, (front l).at_) := if_neg (fun z => h (of_decide_eq_true z))
theorem word_yes {w : String} {l : List Token} (h : (front l).tok = .word (ascii w)) : word w l = .ok (l.drop 1) := if_pos (decide_eq_true h)
def spReadKnown (K : PySem.W.Frag) : Sp := sp2 fun x y H Q E => ∃ (ra ya sl : Addr) (t : Bytes) (l : List Token) (b : Book) (nl ne : Nat) (F : Hp), x = .ref ra ∧ y = .ref ya ∧ RT K H F ra ya sl t l (nmsB b) nl ne ∧ (front l).tok = .word (ascii "known") ∧
  (∀ e, knownIn b (l.drop 1) = .error e → FailP K (M3 ra ya sl) e.1 e.2 H E) ∧ (∀ n i j r, knownIn b (l.drop 1) = .ok (⟨b.unit, b.told ++ [.known n i j]⟩, r) → ∀ H2 F2 ka, Gm (M3 ra ya sl) H F H2 F2 → RT K H2 F2 ra ya sl t r (nmsB b ++ [n]) nl ne → IsKno K F2 ka n i j → Q (.ref ka) H2)
/-- a place on a line read: no less than the last, no more than the line measures -/
def spChain (K : PySem.W.Frag) : Sp := sp4 fun x y z u H Q E => ∃ (ra ya sl : Addr) (t : Bytes) (l : List Token) (S : List Bytes) (nl ne least m : Nat) (F : Hp), x = .ref ra ∧ y = .ref ya ∧ z = .int (least : Int) ∧ u = .int (m : Int) ∧ RT K H F ra ya sl t l S nl ne ∧
  ((∀ c r, num 0 100000 l ≠ .ok (c, r)) → ∀ e, num 0 100000 l = .error e → ¬ (e.1 = 3 ∧ 512 ≤ ne) → FailP K (M3 ra ya sl) e.1 e.2 H E) ∧ (kindOf (front l).tok = 3 → 512 ≤ ne → FailP K (M3 ra ya sl) 6 (front l).at_ H E) ∧
  (∀ c r, num 0 100000 l = .ok (c, r) → ¬ 512 ≤ ne → (m < c ∨ c < least) → FailP K (M3 ra ya sl) 5 (front l).at_ H E) ∧
  (∀ c r, num 0 100000 l = .ok (c, r) → ¬ 512 ≤ ne → ¬ (m < c ∨ c < least) → ∀ H2 F2, Gm (M3 ra ya sl) H F H2 F2 → RT K H2 F2 ra ya sl t r S nl ne → Q (.int (c : Int)) H2)
section
variable {P : Program} {w : World} {K : PySem.W.Frag} {mg : Str → Option Value} {base : Heap}
theorem ok_read_known (T : Txt K mg) : Ok P w K mg base (L2.CX P w) 9 ("read_known", none) ["reader", "tally"] (spReadKnown K) := by
  refine mk_okX T 82 rfl sc_read_known T.g_read_known (fun _ _ _ _ _ _ us hl => match us, hl with | [_, _], _ => rfl) len2 (fun cdv A outer s H vs Q E hr h => ?_)
  refine ⟨_, (pss_cons (ps_expr (pe_mX (pv 0) T.c_Reader T.h_Reader_take_word (ok_Reader_take_word T) hr (takes_of rfl rfl rfl rfl) (pa_cons pe_str pa_nil)))
      (pss_cons (ps_set (i := 2) sc_read_known.nd rfl (Or.inl rfl) (pe_cX (ok_read_new_station T) hr (takes_of rfl rfl rfl rfl) (pa_cons (pv 0) (pa_cons (pv 1) pa_nil))))
      (pss_cons (ps_expr (pe_mX (pv 0) T.c_Reader T.h_Reader_take_word (ok_Reader_take_word T) hr (takes_of rfl rfl rfl rfl) (pa_cons pe_str pa_nil)))
      (pss_cons (ps_set (i := 3) sc_read_known.nd rfl (Or.inl rfl) (pe_mX (pv 0) T.c_Reader T.h_Reader_take_number (ok_Reader_take_number T) hr (takes_of rfl rfl rfl rfl) (pa_cons pe_int (pa_cons (pe_cst T.m_TOP_COORDINATE) pa_nil))))
      (pss_cons (ps_set (i := 4) sc_read_known.nd rfl (Or.inl rfl) (pe_mX (pv 0) T.c_Reader T.h_Reader_take_number (ok_Reader_take_number T) hr (takes_of rfl rfl rfl rfl) (pa_cons pe_int (pa_cons (pe_cst T.m_TOP_COORDINATE) pa_nil))))
      (pss_cons (ps_expr (pe_mX (pv 0) T.c_Reader T.h_Reader_take_sign (ok_Reader_take_sign T) hr (takes_of rfl rfl rfl rfl) (pa_cons (pe_cst T.m_SEMICOLON) pa_nil)))
      (pss_one (ps_ret (pe_k T.k_Known (ok_Known___init__ T) hr (pa_cons (pv 2) (pa_cons (pv 3) (pa_cons (pv 4) pa_nil)))))))))))), ?_⟩
  obtain ⟨x0, x1, rfl, h⟩ := h
  obtain ⟨ra, ya, sl, t, l, b, nl, ne, F, rfl, rfl, st, q, he, ho⟩ := h
  obtain ⟨dx, ta, tk0, hra⟩ := st.rd.ins
  refine ⟨_, rfl, ra, dx, _, rfl, hra, rfl, _, _, rfl, ra, t, l, F, _, ascii "known", rfl, rfl, st_lit, by decide, st.rd, fun _ H1 F1 g1 r1 => ?_, fun z => absurd q z⟩
  have st1 := st.go g1 r1
  have g1' : Gm (M3 ra ya sl) H F H1 F1 := g1.to3
  have kin : knownIn b (l.drop 1) = match newName b (l.drop 1) with
      | .error e => .error e
      | .ok (n, r) => match word "at" r with
        | .error e => .error e
        | .ok s => match num 0 999999 s with
          | .error e => .error e
          | .ok (x, u) => match num 0 999999 u with
            | .error e => .error e
            | .ok (y, v) => match sign 59 v with
              | .error e => .error e
              | .ok z => .ok (⟨b.unit, b.told ++ [.known n x y]⟩, z) := rfl
  refine ⟨_, rfl, _, rfl, _, _, rfl, ra, ya, sl, t, l.drop 1, b, nl, ne, F1, rfl, rfl, st1, fun e hk => ?_, fun n l2 e1 H2 F2 na g2 st2 hna => ?_⟩
  · rw [hk] at kin
    exact (he _ kin).at g1'.keep
  rw [e1] at kin
  simp only at kin
  have g12 := g1'.trans g2 st1.there
  obtain ⟨dx2, ta2, tk2, hra2⟩ := st2.rd.ins
  refine ⟨_, rfl, ra, dx2, _, rfl, hra2, rfl, _, _, rfl, ra, t, l2, F2, _, ascii "at", rfl, rfl, st_lit, by decide, st2.rd, fun q2 H3 F3 g3 r3 => ?_, fun z => ?_⟩
  rotate_left
  · rw [word_no z] at kin
    exact (he _ kin).in1 g12.keep
  rw [word_yes q2] at kin
  simp only at kin
  have st3 := st2.go g3 r3
  have g13 := g12.trans g3.to3 st2.there
  obtain ⟨dx3, ta3, tk3, hra3⟩ := r3.ins
  refine ⟨_, rfl, ra, dx3, _, rfl, hra3, rfl, _, _, _, rfl, ra, t, l2.drop 1, F3, 0, 999999, rfl, rfl, rfl, r3, fun i l4 e3 H4 F4 g4 r4 => ?_, fun e hk => ?_⟩
  rotate_left
  · rw [hk] at kin
    exact (he _ kin).in1 g13.keep
  rw [e3] at kin
  simp only at kin
  have st4 := st3.go g4 r4
  have g14 := g13.trans g4.to3 st3.there
  obtain ⟨dx4, ta4, tk4, hra4⟩ := r4.ins
  refine ⟨_, rfl, ra, dx4, _, rfl, hra4, rfl, _, _, _, rfl, ra, t, l4, F4, 0, 999999, rfl, rfl, rfl, r4, fun j l5 e4 H5 F5 g5 r5 => ?_, fun e hk => ?_⟩
  rotate_left
  · rw [hk] at kin
    exact (he _ kin).in1 g14.keep
  rw [e4] at kin
  simp only at kin
  have st5 := st4.go g5 r5
  have g15 := g14.trans g5.to3 st4.there
  obtain ⟨dx5, ta5, tk5, hra5⟩ := r5.ins
  refine ⟨_, rfl, ra, dx5, _, rfl, hra5, rfl, _, _, rfl, ra, t, l5, F5, 59, rfl, rfl, r5, fun q5 H6 F6 g6 r6 => ?_, fun z => ?_⟩
  rotate_left
  · rw [sign_no z] at kin
    exact (he _ kin).in1 g15.keep
  rw [sign_yes q5] at kin
  simp only at kin
  have st6 := st5.go g6 r6
  have g16 := g15.trans g6.to3 st5.there
  have hna6 : IsName F6 na n := (((hna.mono g3.fr).mono g4.fr).mono g5.fr).mono g6.fr
  refine ⟨_, rfl, _, rfl, _, rfl, fun x dx nx nd nx2 => ⟨_, _, _, _, rfl, x, dx, rfl, upd_same, rfl, ?_⟩⟩
  have gr : Gr H6 F6 _ _ := (Gr.refl r6.sub).made (C := He.ga K "Known") (fs := knoF na i j) nx nd nx2
  exact ho n i j _ kin _ _ x (g16.gr gr st6.there) (st6.gr gr) ⟨dx, na, upd_same, hna6.mono gr.fr⟩
theorem ok_read_chainage (T : Txt K mg) : Ok P w K mg base (L2.CX P w) 8 ("read_chainage", none) ["reader", "tally", "least", "measure"] (spChain K) := by
  refine mk_okX T 86 rfl sc_read_chainage T.g_read_chainage (fun _ _ _ _ _ _ us hl => match us, hl with | [_, _, _, _], _ => rfl) len4 (fun cdv A outer s H vs Q E hr h => ?_)
  refine ⟨_, (pss_cons (ps_set (i := 4) sc_read_chainage.nd rfl (Or.inl rfl) (pe_mX0 (pv 0) T.c_Reader T.h_Reader_place (ok_Reader_place T) hr (takes_of rfl rfl rfl rfl)))
      (pss_cons (ps_if (PW.pt (pw_and (pt_cmpR op_ge (pe_fld (pv 1) rfl) (pe_cst T.m_MOST_ENTRIES) (nomark _)) (pw_and1 (pt_val (pe_mX (pv 0) T.c_Reader T.h_Reader_sees (ok_Reader_sees T) hr (takes_of rfl rfl rfl rfl) (pa_cons (pe_cst T.m_NUMBER) pa_nil)))))) (pss_one (ps_raiseF rfl T hr (takes_of rfl rfl rfl rfl) (pa_cons (pe_cst T.m_TOO_MANY) (pa_cons (pv 4) pa_nil)))) pss_nil)
      (pss_cons (ps_set (i := 5) sc_read_chainage.nd rfl (Or.inl rfl) (pe_mX (pv 0) T.c_Reader T.h_Reader_take_number (ok_Reader_take_number T) hr (takes_of rfl rfl rfl rfl) (pa_cons pe_int (pa_cons (pe_cst T.m_TOP_LINKS) pa_nil))))
      (pss_cons (ps_if (PW.pt (pw_or (pt_cmpR op_lt (pv 5) (pv 2) (nomark _)) (pw_or1 (pt_cmpR op_gt (pv 5) (pv 3) (nomark _))))) (pss_one (ps_raiseF rfl T hr (takes_of rfl rfl rfl rfl) (pa_cons (pe_cst T.m_WRONG_CHAINAGE) (pa_cons (pv 4) pa_nil)))) pss_nil)
      (pss_one (ps_ret (pv 5))))))), ?_⟩
  obtain ⟨x0, x1, x2, x3, rfl, h⟩ := h
  obtain ⟨ra, ya, sl, t, l, S, nl, ne, least, m, F, rfl, rfl, rfl, rfl, st, he, h6, h5, ho⟩ := h
  have rd := st.rd
  obtain ⟨dx, ta, tk0, hra⟩ := rd.ins
  obtain ⟨dy, as, k1, k2, k3, k4, k5, k6⟩ := id st.ty
  have stuckF : kindOf (front l).tok ≠ 3 → FailP K (M3 ra ya sl) (stuckK l) (front l).at_ H E := fun c => he (fun c' r q => by rw [num_no c] at q; cases q) _ (num_no c) (by
    intro z
    have := z.1
    unfold stuckK at this
    split at this <;> simp at this)
  refine ⟨_, rfl, ra, dx, _, rfl, hra, rfl, _, rfl, ra, t, l, F, rfl, rd, fun c => ?_, fun c => ?_⟩
  · have := (stuckF (by rw [c]; decide)).in1 (.of (Same.refl _))
    rwa [show stuckK l = 1 from if_pos c] at this
  refine ⟨_, rfl, ya, _, dy, _, _, rfl, k1, T.c_Tally, T.a_Tally_many_entries, rfl, _, _, rfl, rfl, _, rfl, ?_⟩
  by_cases c512 : 512 ≤ ne
  · rw [decide_eq_true (show (ne : Int) ≥ 512 by omega)]
    refine iteT ⟨_, rfl, ra, dx, _, rfl, hra, rfl, _, _, rfl, ra, t, l, F, 3, rfl, rfl, rd, fun c' => absurd c' c, fun _ => ⟨_, rfl, ?_⟩⟩
    by_cases k3 : kindOf (front l).tok = 3
    · rw [show (kindOf (front l).tok == 3) = true from beq_iff_eq.mpr k3]
      exact iteT ⟨_, rfl, _, _, rfl, fun d hd => (h6 k3 c512).go hd⟩
    · rw [show (kindOf (front l).tok == 3) = false from beq_eq_false_iff_ne.mpr k3]
      refine iteF ⟨_, rfl, ra, dx, _, rfl, hra, rfl, _, _, _, rfl, ra, t, l, F, 0, 100000, rfl, rfl, rfl, rd, fun c' r q => ?_, fun e q => ?_⟩
      · rw [num_no k3] at q
        cases q
      · rw [num_no k3] at q
        cases q
        exact (stuckF k3).in1 (.of (Same.refl _))
  · rw [decide_eq_false (show ¬ (ne : Int) ≥ 512 by omega)]
    refine iteF (iteF ⟨_, rfl, ra, dx, _, rfl, hra, rfl, _, _, _, rfl, ra, t, l, F, 0, 100000, rfl, rfl, rfl, rd, fun v r q H2 F2 g2 r2 => ?_, fun e q => ?_⟩)
    · have bad : (m < v ∨ v < least) → FailP K (M3 ra ya sl) 5 (front l).at_ H2 E := fun z => (h5 v r q c512 z).at g2.to3.keep
      have good : ¬ (m < v ∨ v < least) → Q (.int (v : Int)) H2 := fun z => ho v r q c512 z H2 F2 g2.to3 (st.go g2 r2)
      refine ⟨_, rfl, _, rfl, _, _, rfl, rfl, _, rfl, ?_⟩
      by_cases c1 : (v : Int) < (least : Int)
      · rw [decide_eq_true c1]
        exact iteT (iteT ⟨_, rfl, _, _, rfl, fun d hd => (bad (.inr (by omega))).go hd⟩)
      · rw [decide_eq_false c1]
        refine iteF ⟨_, rfl, _, rfl, _, _, rfl, rfl, _, rfl, ?_⟩
        by_cases c2 : (v : Int) > (m : Int)
        · rw [decide_eq_true c2]
          exact iteT ⟨_, rfl, _, _, rfl, fun d hd => (bad (.inl (by omega))).go hd⟩
        · rw [decide_eq_false c2]
          exact iteF ⟨_, rfl, good (by omega)⟩
    · exact (he (fun c' r q' => by rw [q] at q'; cases q') _ q (fun z => c512 z.2)).in1 (.of (Same.refl _))
end
end CB
end
section
set_option Elab.async false
set_option linter.all false
set_option maxRecDepth 100000
set_option maxHeartbeats 4000000
namespace CB
open PySem PySem.Spec PyProof.Rows L2
open LsText (Bytes ascii Token numberOf isDigit)
open LsChain (front stuck fail sign isWord word num KEPT name Book beside newName knownIn unitIn Told entry Mark)
def lastAt (had : List LsChain.Entry) : Nat := (had.getLast?.map (·.at_)).getD 0
theorem last_any (had : List LsChain.Entry) (c : Nat) : (had.getLast?.any fun e => decide (c < e.at_)) = decide (c < lastAt had) := by
  unfold lastAt
  cases had.getLast? with
  | none => rfl
  | some e => rfl
/-- an entry behind its chainage -/
def entryTail (b : Book) (x y : Bytes) (m : Nat) (had : List LsChain.Entry) (c : Nat) (r : List Token) : LsChain.Got LsChain.Entry :=
  if isWord "station" r = true then (match newName (part b x y m had) (r.drop 1) with
      | .error e => .error e
      | .ok (n, s) => .ok (⟨c, .station n⟩, s))
    else if isWord "tie" r = true then (match name (r.drop 1) with
      | .error e => .error e
      | .ok (n, s) => match beside s with
        | .error e => .error e
        | .ok (o, u) => .ok (⟨c, .tie n o⟩, u))
    else if isWord "feature" r = true then (match num 1 9999 (r.drop 1) with
      | .error e => .error e
      | .ok (f, s) => match beside s with
        | .error e => .error e
        | .ok (o, u) => .ok (⟨c, .feature f o⟩, u))
    else stuck r
theorem entry_is (b : Book) (x y : Bytes) (m : Nat) (had : List LsChain.Entry) (l : List Token) : entry b x y m had l = match num 0 100000 l with
    | .error e => if e.1 = 3 ∧ 512 ≤ b.entries + had.length then fail 6 l else .error e
    | .ok (c, r) => if 512 ≤ b.entries + had.length then fail 6 l else if m < c ∨ (had.getLast?.any fun e => decide (c < e.at_)) = true then fail 5 l else entryTail b x y m had c r := rfl
theorem beside_none {l : List Token} (h : (front l).tok = .none_) : beside l = .ok (0, l) := by
  unfold LsChain.beside
  rw [word_is, word_is, h]
  rfl
theorem num3 {l : List Token} (h : kindOf (front l).tok = 3) {lo hi : Nat} : (∃ n, num lo hi l = .ok (n, l.drop 1)) ∨ num lo hi l = .error (3, (front l).at_) := by
  unfold num
  cases q : (front l).tok with
  | num n =>
    by_cases c : lo ≤ n ∧ n ≤ hi
    · exact .inl ⟨n, by simp only; rw [if_pos c]⟩
    · exact .inr (by simp only; rw [if_neg c]; rfl)
  | word b => rw [q] at h; cases h
  | text b => rw [q] at h; cases h
  | sign c => rw [q] at h; cases h
  | none_ => rw [q] at h; cases h
  | over => rw [q] at h; cases h
def spReadEntry (K : PySem.W.Frag) : Sp := sp4 fun x y z u H Q E => ∃ (ra ya sl : Addr) (t : Bytes) (l : List Token) (b : Book) (n1 n2 : Bytes) (m : Nat) (had : List LsChain.Entry) (nl : Nat) (F : Hp), x = .ref ra ∧ y = .ref ya ∧ z = .int (lastAt had : Int) ∧ u = .int (m : Int) ∧
  RT K H F ra ya sl t l (nmsB (part b n1 n2 m had)) nl (b.entries + had.length) ∧ (∀ e, entry b n1 n2 m had l = .error e → FailP K (M3 ra ya sl) e.1 e.2 H E) ∧
  (∀ e r, entry b n1 n2 m had l = .ok (e, r) → ((front r).tok = .none_ → FailP K (M3 ra ya sl) 1 (front r).at_ H E) ∧
    ∀ H2 F2 ea, Gm (M3 ra ya sl) H F H2 F2 → RT K H2 F2 ra ya sl t r (nmsB (part b n1 n2 m (had ++ [e]))) nl (b.entries + had.length + 1) → IsEnt K F2 ea e → Q (.ref ea) H2)
section
variable {P : Program} {w : World} {K : PySem.W.Frag} {mg : Str → Option Value} {base : Heap}
theorem ok_read_entry (T : Txt K mg) : Ok P w K mg base (L2.CX P w) 9 ("read_entry", none) ["reader", "tally", "least", "measure"] (spReadEntry K) := by
  refine mk_okX T 85 rfl sc_read_entry T.g_read_entry (fun _ _ _ _ _ _ us hl => match us, hl with | [_, _, _, _], _ => rfl) len4 (fun cdv A outer s H vs Q E hr h => ?_)
  refine ⟨_, (pss_cons (ps_set (i := 4) sc_read_entry.nd rfl (Or.inl rfl) (pe_cX (ok_read_chainage T) hr (takes_of rfl rfl rfl rfl) (pa_cons (pv 0) (pa_cons (pv 1) (pa_cons (pv 2) (pa_cons (pv 3) pa_nil))))))
      (pss_cons (ps_expr (pe_m0 (pv 1) T.c_Tally T.h_Tally_add_entry (ok_Tally_add_entry T) hr))
      (pss_cons (ps_if (pt_val (pe_mX (pv 0) T.c_Reader T.h_Reader_sees_word (ok_Reader_sees_word T) hr (takes_of rfl rfl rfl rfl) (pa_cons pe_str pa_nil))) (pss_cons (ps_expr (pe_mX (pv 0) T.c_Reader T.h_Reader_take_word (ok_Reader_take_word T) hr (takes_of rfl rfl rfl rfl) (pa_cons pe_str pa_nil)))
      (pss_one (ps_ret (pe_k T.k_Entry (ok_Entry___init__ T) hr (pa_cons (pv 4) (pa_cons (pe_cst T.m_STATION) (pa_cons (pe_cX (ok_read_new_station T) hr (takes_of rfl rfl rfl rfl) (pa_cons (pv 0) (pa_cons (pv 1) pa_nil))) (pa_cons pe_int (pa_cons pe_int pa_nil))))))))) pss_nil)
      (pss_cons (ps_if (pt_val (pe_mX (pv 0) T.c_Reader T.h_Reader_sees_word (ok_Reader_sees_word T) hr (takes_of rfl rfl rfl rfl) (pa_cons pe_str pa_nil))) (pss_cons (ps_expr (pe_mX (pv 0) T.c_Reader T.h_Reader_take_word (ok_Reader_take_word T) hr (takes_of rfl rfl rfl rfl) (pa_cons pe_str pa_nil)))
      (pss_cons (ps_set (i := 5) sc_read_entry.nd rfl (Or.inl rfl) (pe_mX0 (pv 0) T.c_Reader T.h_Reader_take_name (ok_Reader_take_name T) hr (takes_of rfl rfl rfl rfl)))
      (pss_one (ps_ret (pe_k T.k_Entry (ok_Entry___init__ T) hr (pa_cons (pv 4) (pa_cons (pe_cst T.m_TIE) (pa_cons (pv 5) (pa_cons pe_int (pa_cons (pe_cX (ok_read_beside T) hr (takes_of rfl rfl rfl rfl) (pa_cons (pv 0) pa_nil)) pa_nil)))))))))) pss_nil)
      (pss_cons (ps_expr (pe_mX (pv 0) T.c_Reader T.h_Reader_take_word (ok_Reader_take_word T) hr (takes_of rfl rfl rfl rfl) (pa_cons pe_str pa_nil)))
      (pss_cons (ps_set (i := 6) sc_read_entry.nd rfl (Or.inl rfl) (pe_mX (pv 0) T.c_Reader T.h_Reader_take_number (ok_Reader_take_number T) hr (takes_of rfl rfl rfl rfl) (pa_cons pe_int (pa_cons (pe_cst T.m_TOP_FEATURE) pa_nil))))
      (pss_one (ps_ret (pe_k T.k_Entry (ok_Entry___init__ T) hr (pa_cons (pv 4) (pa_cons (pe_cst T.m_FEATURE) (pa_cons (pe_tup pa_nil) (pa_cons (pv 6) (pa_cons (pe_cX (ok_read_beside T) hr (takes_of rfl rfl rfl rfl) (pa_cons (pv 0) pa_nil)) pa_nil)))))))))))))), ?_⟩
  obtain ⟨x0, x1, x2, x3, rfl, h⟩ := h
  obtain ⟨ra, ya, sl, t, l, b, n1, n2, m, had, nl, F, rfl, rfl, rfl, rfl, st, he, ho⟩ := h
  have en := entry_is b n1 n2 m had l
  refine ⟨_, rfl, _, rfl, _, rfl, _, rfl, _, _, _, _, rfl, ra, ya, sl, t, l, nmsB (part b n1 n2 m had), nl, b.entries + had.length, lastAt had, m, F, rfl, rfl, rfl, rfl, st, fun _ e q c => ?_, fun k3 c => ?_, fun c r q n512 z => ?_, fun c r q n512 z H1 F1 g1 st1 => ?_⟩
  · rw [q] at en
    simp only at en
    rw [if_neg c] at en
    exact he _ en
  · have : entry b n1 n2 m had l = .error (6, (front l).at_) := by
      rw [en]
      rcases num3 k3 (lo := 0) (hi := 100000) with ⟨n, q⟩ | q
      · rw [q]
        simp only
        rw [if_pos c]
        rfl
      · rw [q]
        simp only
        rw [if_pos ⟨trivial, c⟩]
        rfl
    exact he _ this
  · rw [q] at en
    simp only at en
    rw [if_neg n512, last_any, if_pos (by rw [decide_eq_true_eq]; exact z)] at en
    exact he _ en
  rw [q] at en
  simp only at en
  rw [if_neg n512, last_any, if_neg (by rw [decide_eq_true_eq]; exact z)] at en
  clear q
  obtain ⟨dy, as, k1, k2, k3, k4, k5, k6⟩ := id st1.ty
  obtain ⟨d1, d2, d3⟩ := st1.diff
  refine ⟨_, rfl, ya, dy, _, rfl, k1, rfl, _, rfl, ya, sl, nmsB (part b n1 n2 m had), nl, b.entries + had.length, F1, rfl, st1.rd.sub, st1.ty, fun H2 g2 ty2 => ?_⟩
  have rd2 := st1.rd.tly g2 (fun z => d1 (Eq.symm z))
  have st2 : RT K H2 F1 ra ya sl t r (nmsB (part b n1 n2 m had)) nl (b.entries + had.length + 1) := ⟨rd2, ty2⟩
  have g02 : Gm (M3 ra ya sl) H F H2 F1 := g1.trans (g2.mono one_ya) st1.there
  have he2 : ∀ e, entry b n1 n2 m had l = .error e → FailP K (M3 ra ya sl) e.1 e.2 H2 E := fun e q => (he e q).at g02.keep
  have ho2 : ∀ e s, entry b n1 n2 m had l = .ok (e, s) → ((front s).tok = .none_ → FailP K (M3 ra ya sl) 1 (front s).at_ H2 E) ∧
      ∀ H3 F3 ea, Gm (M3 ra ya sl) H2 F1 H3 F3 → RT K H3 F3 ra ya sl t s (nmsB (part b n1 n2 m (had ++ [e]))) nl (b.entries + had.length + 1) → IsEnt K F3 ea e → Q (.ref ea) H3 :=
    fun e s q => ⟨fun c => ((ho e s q).1 c).at g02.keep, fun H3 F3 ea g st3 ie => (ho e s q).2 H3 F3 ea (g02.trans g st2.there) st3 ie⟩
  rw [en] at he2 ho2
  clear en he ho
  obtain ⟨dx2, ta2, tk2, hra2⟩ := rd2.ins
  have stuckE : (front r).tok ≠ .word (ascii "station") → (front r).tok ≠ .word (ascii "tie") → (front r).tok ≠ .word (ascii "feature") → FailP K (M3 ra ya sl) (stuckK r) (front r).at_ H2 E := fun a1 a2 a3 => he2 (stuckK r, (front r).at_) (by
    unfold entryTail
    rw [word_is, word_is, word_is, decide_eq_false a1, decide_eq_false a2, decide_eq_false a3]
    rfl)
  refine ⟨_, rfl, ra, dx2, _, rfl, hra2, rfl, _, _, rfl, ra, t, r, F1, _, ascii "station", rfl, rfl, st_lit, by decide, rd2, fun c => ?_, fun nn H3 s3 => ⟨_, rfl, ?_⟩⟩
  · have := (stuckE (by rw [c]; intro z; cases z) (by rw [c]; intro z; cases z) (by rw [c]; intro z; cases z)).in1 (.of (Same.refl _))
    rwa [show stuckK r = 1 from if_pos c] at this
  have st3 := st2.same s3
  have g3 : Gm (M3 ra ya sl) H2 F1 H3 F1 := gm_same rd2.sub s3
  by_cases q1 : (front r).tok = .word (ascii "station")
  · have te : entryTail b n1 n2 m had c r = match newName (part b n1 n2 m had) (r.drop 1) with
        | .error e => .error e
        | .ok (n, s) => .ok (⟨c, .station n⟩, s) := by
      unfold entryTail
      rw [word_is, decide_eq_true q1, if_pos rfl]
    rw [te] at he2 ho2
    rw [decide_eq_true q1]
    refine iteT ⟨_, rfl, ra, dx2, _, rfl, s3 _ _ hra2, rfl, _, _, rfl, ra, t, r, F1, _, ascii "station", rfl, rfl, st_lit, by decide, st3.rd, fun _ H4 F4 g4 r4 => ?_, fun z => absurd q1 z⟩
    have st4 := st3.go g4 r4
    have g24 := g3.trans g4.to3 st3.there
    refine ⟨_, rfl, _, rfl, _, rfl, _, _, rfl, ra, ya, sl, t, r.drop 1, part b n1 n2 m had, nl, _, F4, rfl, rfl, st4, fun e q => ?_, fun n s q H5 F5 na g5 st5 hna => ?_⟩
    · rw [q] at he2
      exact (he2 _ rfl).at g24.keep
    · rw [q] at ho2
      refine fun x dx nx nd nx2 => ⟨_, _, _, _, _, _, rfl, x, dx, rfl, upd_same, rfl, ?_⟩
      have gr : Gr H5 F5 _ _ := (Gr.refl st5.rd.sub).made (C := He.ga K "Entry") (fs := entF na ⟨c, .station n⟩) nx nd nx2
      have st6 := st5.gr gr
      have en : nmsB (part b n1 n2 m had) ++ [n] = nmsB (part b n1 n2 m (had ++ [⟨c, .station n⟩])) := by
        rw [nms_part_snoc]
        rfl
      rw [en] at st6
      exact (ho2 _ _ rfl).2 _ _ x ((g24.trans g5 st4.there).gr gr st5.there) st6 ⟨dx, na, upd_same, hna.mono gr.fr⟩
  · rw [decide_eq_false q1]
    refine iteF ⟨_, rfl, ra, dx2, _, rfl, s3 _ _ hra2, rfl, _, _, rfl, ra, t, r, F1, _, ascii "tie", rfl, rfl, st_lit, by decide, st3.rd, fun c' => absurd c' nn, fun _ H4 s4 => ⟨_, rfl, ?_⟩⟩
    have st4 := st3.same s4
    have g4 : Gm (M3 ra ya sl) H2 F1 H4 F1 := gm_same rd2.sub (s3.trans s4)
    by_cases q2 : (front r).tok = .word (ascii "tie")
    · have te : entryTail b n1 n2 m had c r = match name (r.drop 1) with
          | .error e => .error e
          | .ok (n, s) => match beside s with
            | .error e => .error e
            | .ok (o, u) => .ok (⟨c, .tie n o⟩, u) := by
        unfold entryTail
        rw [word_is, word_is, decide_eq_false q1, decide_eq_true q2, if_neg Bool.false_ne_true, if_pos rfl]
      rw [te] at he2 ho2
      rw [decide_eq_true q2]
      refine iteT ⟨_, rfl, ra, dx2, _, rfl, s4 _ _ (s3 _ _ hra2), rfl, _, _, rfl, ra, t, r, F1, _, ascii "tie", rfl, rfl, st_lit, by decide, st4.rd, fun _ H5 F5 g5 r5 => ?_, fun z => absurd q2 z⟩
      have st5 := st4.go g5 r5
      have g25 := g4.trans g5.to3 st4.there
      obtain ⟨dx5, ta5, tk5, hra5⟩ := r5.ins
      refine ⟨_, rfl, ra, dx5, _, rfl, hra5, rfl, _, rfl, ra, t, r.drop 1, F5, rfl, r5, fun n s q H6 F6 na g6 r6 hna => ?_, fun e q => ?_⟩
      rotate_left
      · rw [q] at he2
        exact (he2 _ rfl).in1 g25.keep
      rw [q] at he2 ho2
      simp only at he2 ho2
      have st6 := st5.go g6 r6
      have g26 := g25.trans g6.to3 st5.there
      refine ⟨_, rfl, _, rfl, _, rfl, _, rfl, ra, t, s, F6, rfl, r6, fun c' => ?_, fun e q' => ?_, fun o u q' H7 F7 g7 r7 => ?_⟩
      · rw [beside_none c'] at ho2
        exact ((ho2 _ _ rfl).1 c').in1 g26.keep
      · rw [q'] at he2
        exact (he2 _ rfl).in1 g26.keep
      · rw [q'] at ho2
        refine fun x dx nx nd nx2 => ⟨_, _, _, _, _, _, rfl, x, dx, rfl, upd_same, rfl, ?_⟩
        have st7 := st6.go g7 r7
        have gr : Gr H7 F7 _ _ := (Gr.refl st7.rd.sub).made (C := He.ga K "Entry") (fs := entF na ⟨c, .tie n o⟩) nx nd nx2
        have st8 := st7.gr gr
        have en : nmsB (part b n1 n2 m had) = nmsB (part b n1 n2 m (had ++ [⟨c, .tie n o⟩])) := by
          rw [nms_part_snoc]
          exact (List.append_nil _).symm
        rw [en] at st8
        exact (ho2 _ _ rfl).2 _ _ x ((g26.trans g7.to3 st6.there).gr gr st7.there) st8 ⟨dx, na, upd_same, (hna.mono g7.fr).mono gr.fr⟩
    · rw [decide_eq_false q2]
      refine iteF ⟨_, rfl, ra, dx2, _, rfl, s4 _ _ (s3 _ _ hra2), rfl, _, _, rfl, ra, t, r, F1, _, ascii "feature", rfl, rfl, st_lit, by decide, st4.rd, fun q3 H5 F5 g5 r5 => ?_, fun q3 => ?_⟩
      rotate_left
      · exact (stuckE q1 q2 q3).in1 g4.keep
      have te : entryTail b n1 n2 m had c r = match num 1 9999 (r.drop 1) with
          | .error e => .error e
          | .ok (f, s) => match beside s with
            | .error e => .error e
            | .ok (o, u) => .ok (⟨c, .feature f o⟩, u) := by
        unfold entryTail
        rw [word_is, word_is, word_is, decide_eq_false q1, decide_eq_false q2, decide_eq_true q3, if_neg Bool.false_ne_true, if_neg Bool.false_ne_true, if_pos rfl]
      rw [te] at he2 ho2
      have st5 := st4.go g5 r5
      have g25 := g4.trans g5.to3 st4.there
      obtain ⟨dx5, ta5, tk5, hra5⟩ := r5.ins
      refine ⟨_, rfl, ra, dx5, _, rfl, hra5, rfl, _, _, _, rfl, ra, t, r.drop 1, F5, 1, 9999, rfl, rfl, rfl, r5, fun n s q H6 F6 g6 r6 => ?_, fun e q => ?_⟩
      rotate_left
      · rw [q] at he2
        exact (he2 _ rfl).in1 g25.keep
      rw [q] at he2 ho2
      simp only at he2 ho2
      have st6 := st5.go g6 r6
      have g26 := g25.trans g6.to3 st5.there
      refine ⟨_, rfl, (by show 0 ≤ sizeLine; decide), fun na hna => ?_⟩
      have gp : Gr H6 F6 (upd H6 na (.tup (bV []))) (upd F6 na (.tup (bV []))) := (Gr.refl r6.sub).put hna
      have st7 := st6.gr gp
      have g27 := g26.gr gp st6.there
      refine ⟨_, rfl, _, rfl, _, rfl, ra, t, s, _, rfl, st7.rd, fun c' => ?_, fun e q' => ?_, fun o u q' H8 F8 g8 r8 => ?_⟩
      · rw [beside_none c'] at ho2
        exact ((ho2 _ _ rfl).1 c').in1 g27.keep
      · rw [q'] at he2
        exact (he2 _ rfl).in1 g27.keep
      · rw [q'] at ho2
        refine fun x dx nx nd nx2 => ⟨_, _, _, _, _, _, rfl, x, dx, rfl, upd_same, rfl, ?_⟩
        have st8 := st7.go g8 r8
        have gr : Gr H8 F8 _ _ := (Gr.refl st8.rd.sub).made (C := He.ga K "Entry") (fs := entF na ⟨c, .feature n o⟩) nx nd nx2
        have st9 := st8.gr gr
        have en : nmsB (part b n1 n2 m had) = nmsB (part b n1 n2 m (had ++ [⟨c, .feature n o⟩])) := by
          rw [nms_part_snoc]
          exact (List.append_nil _).symm
        rw [en] at st9
        exact (ho2 _ _ rfl).2 _ _ x ((g27.trans g8.to3 st7.there).gr gr st8.there) st9 ⟨dx, na, upd_same, gr.fr _ _ (g8.fr _ _ upd_same)⟩
end
end CB
end
section
set_option Elab.async false
set_option linter.all false
set_option maxRecDepth 100000
set_option maxHeartbeats 4000000
namespace CB
open PySem PySem.Spec PyProof.Rows L2
open LsText (Bytes ascii Token numberOf isDigit)
open LsChain (front stuck fail sign isWord word num KEPT name Book beside newName knownIn unitIn Told entry Mark lineIn entriesFrom)
section
variable {K : PySem.W.Frag} {M : Addr → Prop} {H F H1 F1 H2 F2 : Hp} {ra ya sl p : Addr} {t : Bytes} {l r : List Token} {S : List Bytes} {nl ne : Nat} {o : HO}
theorem Gm.own (a : Gm M H F H1 F1) (n : H p = none) (m : F1 p = none) : Gm M H F (upd H1 p o) F1 where
  keep := fun b u q e => by
    rw [upd_ne (ne_some e n)]
    exact a.keep b u q e
  fr := a.fr
  sub := fun b u e => by
    rw [upd_ne (ne_some e m)]
    exact a.sub b u e
  new := a.new
theorem Gm.freeze (a : Gm M H F H1 F1) (n : H p = none) (m : F1 p = none) (h : H1 p = some o) : Gm M H F H1 (upd F1 p o) where
  keep := a.keep
  fr := same_upd2 a.fr m
  sub := fun b u e => by
    by_cases z : b = p
    · rw [z, upd_same] at e
      rw [z, h]
      exact e
    · rw [upd_ne z] at e
      exact a.sub b u e
  new := fun b u e => by
    rw [upd_ne (ne_some e n)]
    exact a.new b u e
theorem RT.notin (h : RT K H F ra ya sl t l S nl ne) (n : H p = none) : ¬ M3 ra ya sl p := fun e => by
  obtain ⟨u, q⟩ := h.there p e
  rw [q] at n
  cases n
theorem not3 (n : ¬ M3 ra ya sl p) : ra ≠ p ∧ ya ≠ p ∧ sl ≠ p := ⟨fun z => n (.inl z.symm), fun z => n (.inr (.inl z.symm)), fun z => n (.inr (.inr z.symm))⟩
theorem RT.off (h : RT K H1 F1 ra ya sl t l S nl ne) (n : ¬ M3 ra ya sl p) (f : F1 p = none) : RT K (upd H1 p o) F1 ra ya sl t l S nl ne := by
  obtain ⟨n1, n2, n3⟩ := not3 n
  obtain ⟨⟨q, dx, ta, tk, h1, h2, h3, h4, h5, h6, h7, h8⟩, dy, as, k1, k2, k3, k4, k5, k6⟩ := h
  refine ⟨⟨q, dx, ta, tk, h1, h2, h3, ?_, h5, h6, h7, fun b u e => ?_⟩, dy, as, ?_, k2, ?_, k4, k5, k6⟩
  · rw [upd_ne n1]
    exact h4
  · rw [upd_ne (ne_some e f)]
    exact h8 b u e
  · rw [upd_ne n2]
    exact k1
  · rw [upd_ne n3]
    exact k3
theorem RT.fix (h : RT K H1 F1 ra ya sl t l S nl ne) (n : ¬ M3 ra ya sl p) (f : F1 p = none) (e : H1 p = some o) : RT K H1 (upd F1 p o) ra ya sl t l S nl ne := by
  obtain ⟨n1, n2, n3⟩ := not3 n
  obtain ⟨⟨q, dx, ta, tk, h1, h2, h3, h4, h5, h6, h7, h8⟩, dy, as, k1, k2, k3, k4, k5, k6⟩ := h
  have s : Same F1 (upd F1 p o) := same_upd f
  refine ⟨⟨q, dx, ta, tk, h1, h2, h3, h4, ?_, s _ _ h6, h7.mono s, fun b u z => ?_⟩, dy, as, k1, ?_, k3, ?_, k5.imp fun _ _ => IsName.mono s, k6⟩
  · rw [upd_ne n1]
    exact h5
  · by_cases y : b = p
    · rw [y, upd_same] at z
      rw [y, e]
      exact z
    · rw [upd_ne y] at z
      exact h8 b u z
  · rw [upd_ne n2]
    exact k2
  · rw [upd_ne n3]
    exact k4
end
theorem last_snoc (had : List LsChain.Entry) (e : LsChain.Entry) : lastAt (had ++ [e]) = e.at_ := by
  unfold lastAt
  rw [List.getLast?_concat]
  rfl
def spReadEntries (K : PySem.W.Frag) : Sp := sp3 fun x y z H Q E => ∃ (ra ya sl : Addr) (t : Bytes) (l : List Token) (b : Book) (n1 n2 : Bytes) (m : Nat) (nl : Nat) (F : Hp), x = .ref ra ∧ y = .ref ya ∧ z = .int (m : Int) ∧
  RT K H F ra ya sl t l (nmsB b) nl b.entries ∧ ((front l).tok = .none_ → FailP K (M3 ra ya sl) 1 (front l).at_ H E) ∧
  ((front l).tok ≠ .none_ → (front l).tok ≠ .sign 58 → ∀ H2 F2 ea, Gm (M3 ra ya sl) H F H2 F2 → RT K H2 F2 ra ya sl t l (nmsB b) nl b.entries → F2 ea = some (.lst []) → Q (.ref ea) H2) ∧
  ((front l).tok = .sign 58 → (∀ e, entsR b n1 n2 m (l.drop 1).length [] (l.drop 1) = .error e → FailP K (M3 ra ya sl) e.1 e.2 H E) ∧
    ∀ es r, entsR b n1 n2 m (l.drop 1).length [] (l.drop 1) = .ok (es, r) → ∀ H2 F2 ea eas, Gm (M3 ra ya sl) H F H2 F2 → RT K H2 F2 ra ya sl t r (nmsB (part b n1 n2 m es)) nl (b.entries + es.length) → F2 ea = some (.lst (rV eas)) → All2 (IsEnt K F2) eas es → Q (.ref ea) H2)
theorem toks_pos (t : Bytes) (p : Nat) : 0 < (toks t p).length := by
  unfold toks LsText.tokensFrom
  simp only
  split <;> simp
theorem Rdr.pos {K : PySem.W.Frag} {H F : Hp} {ra : Addr} {t : Bytes} {l : List Token} (r : Rdr K H F ra t l) : 0 < l.length := by
  obtain ⟨p, dx, ta, tk, h1, h2, h3, _⟩ := r
  rw [h3]
  exact toks_pos t p
section
variable {P : Program} {w : World} {K : PySem.W.Frag} {mg : Str → Option Value} {base : Heap}
theorem ok_read_entries (T : Txt K mg) : Ok P w K mg base (L2.CX P w) 10 ("read_entries", none) ["reader", "tally", "measure"] (spReadEntries K) := by
  refine mk_okX T 84 rfl sc_read_entries T.g_read_entries (fun _ _ _ _ _ _ us hl => match us, hl with | [_, _, _], _ => rfl) len3 (fun cdv A outer s H vs Q E hr h => ?_)
  refine ⟨_, (pss_cons (ps_if (pt_not (pt_val (pe_mX (pv 0) T.c_Reader T.h_Reader_sees_sign (ok_Reader_sees_sign T) hr (takes_of rfl rfl rfl rfl) (pa_cons (pe_cst T.m_COLON) pa_nil)))) (pss_one (ps_ret (pe_lst pa_nil))) pss_nil)
      (pss_cons (ps_expr (pe_mX (pv 0) T.c_Reader T.h_Reader_take_sign (ok_Reader_take_sign T) hr (takes_of rfl rfl rfl rfl) (pa_cons (pe_cst T.m_COLON) pa_nil)))
      (pss_cons (ps_set (i := 3) sc_read_entries.nd rfl (Or.inl rfl) (pe_lst (pa_cons (pe_cX (ok_read_entry T) hr (takes_of rfl rfl rfl rfl) (pa_cons (pv 0) (pa_cons (pv 1) (pa_cons pe_int (pa_cons (pv 2) pa_nil))))) pa_nil)))
      (pss_cons (ps_while (passes_of rfl) (pt_val (pe_mX (pv 0) T.c_Reader T.h_Reader_sees_sign (ok_Reader_sees_sign T) hr (takes_of rfl rfl rfl rfl) (pa_cons (pe_cst T.m_COMMA) pa_nil))) (pss_cons (ps_expr (pe_mX (pv 0) T.c_Reader T.h_Reader_take_sign (ok_Reader_take_sign T) hr (takes_of rfl rfl rfl rfl) (pa_cons (pe_cst T.m_COMMA) pa_nil)))
      (pss_one (ps_expr (pe_bm PySem.F.plainAttrs_list PySem.F.slot_list_append PySem.F.type_list_append mt_append (pv 3) (pa_cons (pe_cX (ok_read_entry T) hr (takes_of rfl rfl rfl rfl) (pa_cons (pv 0) (pa_cons (pv 1) (pa_cons (pe_fld (pe_ix ix_list (pv 3) (pe_un un_neg pe_int) (fun _ _ => rfl)) rfl) (pa_cons (pv 2) pa_nil))))) pa_nil))))))
      (pss_one (ps_ret (pv 3))))))), ?_⟩
  obtain ⟨x0, x1, x2, rfl, h⟩ := h
  obtain ⟨ra, ya, sl, t, l, b, n1, n2, m, nl, F, rfl, rfl, rfl, st, hn, h0, h1⟩ := h
  obtain ⟨dx, ta, tk0, hra⟩ := st.rd.ins
  refine ⟨_, rfl, ra, dx, _, rfl, hra, rfl, _, _, rfl, ra, t, l, F, 58, rfl, rfl, st.rd, fun c => (hn c).in1 (.of (Same.refl _)), fun c H1 s1 => ⟨_, rfl, ?_⟩⟩
  have st1 := st.same s1
  have g1 : Gm (M3 ra ya sl) H F H1 F := gm_same st.rd.sub s1
  by_cases q : (front l).tok = .sign 58
  rotate_left
  · rw [decide_eq_false q]
    refine iteT ⟨(by show 0 ≤ sizeLine; decide), fun p hp => ?_⟩
    have gp : Gr H1 F (upd H1 p (.lst [])) (upd F p (.lst [])) := (Gr.refl st1.rd.sub).put hp
    exact h0 c q _ _ p (g1.gr gp st1.there) (st1.gr gp) upd_same
  rw [decide_eq_true q]
  obtain ⟨he, ho⟩ := h1 q
  refine iteF ⟨_, rfl, ra, dx, _, rfl, s1 _ _ hra, rfl, _, _, rfl, ra, t, l, F, 58, rfl, rfl, st1.rd, fun _ H2 F2 g2 r2 => ?_, fun z => absurd q z⟩
  have st2 := st1.go g2 r2
  have g02 := g1.trans g2.to3 st1.there
  have pn := nms_part_nil b n1 n2 m
  have zp := r2.pos
  obtain ⟨k, hk⟩ : ∃ k, (l.drop 1).length = k + 1 := ⟨(l.drop 1).length - 1, by omega⟩
  rw [hk] at he ho
  rw [entsR_succ] at he ho
  have st2' : RT K H2 F2 ra ya sl t (l.drop 1) (nmsB (part b n1 n2 m [])) nl (b.entries + ([] : List LsChain.Entry).length) := by
    rw [pn]
    exact st2
  refine ⟨_, rfl, _, rfl, _, rfl, _, _, _, _, rfl, ra, ya, sl, t, l.drop 1, b, n1, n2, m, [], nl, F2, rfl, rfl, rfl, rfl, st2', fun e q' => ?_, fun e r q' => ⟨fun c' => ?_, fun H3 F3 ea g3 st3 hea => ?_⟩⟩
  · rw [q'] at he
    exact (he _ rfl).at g02.keep
  · rw [q'] at he
    simp only at he
    unfold contR at he
    rw [if_pos c'] at he
    have := (he (stuckK r, (front r).at_) rfl).at g02.keep
    rwa [show stuckK r = 1 from if_pos c'] at this
  rw [q'] at he ho
  simp only at he ho
  obtain ⟨lt1, few1, _⟩ := entry_ok q'
  have g03 := g02.trans g3 st2.there
  refine ⟨(by show 1 ≤ sizeLine; decide), fun el hel => ?_⟩
  have hel0 : H el = none := by
    cases z : H el with
    | none => rfl
    | some u =>
      obtain ⟨u', e'⟩ := g03.there st3.there z
      rw [e'] at hel
      cases hel
  have nel : ¬ M3 ra ya sl el := st.notin hel0
  have fel3 : F3 el = none := st3.rd.sub.free hel
  have nn : ([] : List LsChain.Entry) ++ [e] = [e] := rfl
  rw [nn] at st3 he ho
  let RES := contR b n1 n2 m k [e] r
  refine ⟨fun μ σ H' => ∃ (F' : Hp) (had : List LsChain.Entry) (le : LsChain.Entry) (rr : List Token) (n : Nat) (eas : List Addr), σ = [some (.ref ra), some (.ref ya), some (.int (m : Int)), some (.ref el)] ∧ Gm (M3 ra ya sl) H F H' F' ∧ RT K H' F' ra ya sl t rr (nmsB (part b n1 n2 m (had ++ [le]))) nl (b.entries + (had ++ [le]).length) ∧ H' el = some (.lst (rV eas)) ∧ F' el = none ∧ All2 (IsEnt K F') eas (had ++ [le]) ∧
    rr.length ≤ n ∧ μ = rr.length ∧ contR b n1 n2 m n (had ++ [le]) rr = RES ∧ (had ++ [le]).length ≤ 512, ⟨_, F3, [], e, r, k, [ea], rfl, g03.own hel0 fel3, st3.off nel fel3, upd_same, fel3, .cons hea .nil, by omega, rfl, rfl, by show 1 ≤ 512; decide⟩, ?_⟩
  rintro μ σ H' ⟨F', had, le, rr, n, eas, rfl, g', st', el', fel', hA, ln, rfl, hR, h512⟩
  obtain ⟨dx', ta', tk', hra'⟩ := st'.rd.ins
  have heR : ∀ e, contR b n1 n2 m n (had ++ [le]) rr = .error e → FailP K (M3 ra ya sl) e.1 e.2 H E := fun e q => he e (hR.symm.trans q)
  refine ⟨_, rfl, ra, dx', _, rfl, hra', rfl, _, _, rfl, ra, t, rr, F', 44, rfl, rfl, st'.rd, fun c' => ?_, fun c' H4 s4 => ⟨_, rfl, ?_⟩⟩
  · have cR : contR b n1 n2 m n (had ++ [le]) rr = .error (stuckK rr, (front rr).at_) := if_pos c'
    have := (heR _ cR).in1 g'.keep
    rwa [show stuckK rr = 1 from if_pos c'] at this
  have st4 := st'.same s4
  have g4 : Gm (M3 ra ya sl) H F H4 F' := g'.trans (gm_same st'.rd.sub s4) st'.there
  have el4 := s4 _ _ el'
  by_cases q44 : (front rr).tok = .sign 44
  · rw [decide_eq_true q44]
    have cR : contR b n1 n2 m n (had ++ [le]) rr = entsR b n1 n2 m n (had ++ [le]) (rr.drop 1) := by
      unfold contR
      rw [if_neg c', if_pos q44]
    obtain ⟨n', hn'⟩ : ∃ n', n = n' + 1 := by
      have := st'.rd.pos
      exact ⟨n - 1, by omega⟩
    subst hn'
    rw [entsR_succ] at cR
    refine iteT ⟨fun σ' H'' => ∃ m', m' < rr.length ∧ ∃ (F' : Hp) (had : List LsChain.Entry) (le : LsChain.Entry) (rr : List Token) (n : Nat) (eas : List Addr), σ' = [some (.ref ra), some (.ref ya), some (.int (m : Int)), some (.ref el)] ∧ Gm (M3 ra ya sl) H F H'' F' ∧ RT K H'' F' ra ya sl t rr (nmsB (part b n1 n2 m (had ++ [le]))) nl (b.entries + (had ++ [le]).length) ∧ H'' el = some (.lst (rV eas)) ∧ F' el = none ∧ All2 (IsEnt K F') eas (had ++ [le]) ∧
      rr.length ≤ n ∧ m' = rr.length ∧ contR b n1 n2 m n (had ++ [le]) rr = RES ∧ (had ++ [le]).length ≤ 512, fun σ' H'' q => q, ?_⟩
    refine ⟨_, rfl, ra, dx', _, rfl, s4 _ _ hra', rfl, _, _, rfl, ra, t, rr, F', 44, rfl, rfl, st4.rd, fun _ H5 F5 g5 r5 => ?_, fun z => absurd q44 z⟩
    have st5 := st4.go g5 r5
    have g05 := g4.trans g5.to3 st4.there
    have el5 : H5 el = some (.lst (rV eas)) := g5.keep _ _ (fun z => nel (.inl z)) el4
    have fel5 : F5 el = none := (g5.new _ _ el4).trans fel'
    have ln5 : (rr.drop 1).length < rr.length := drop_lt (by rw [q44]; rfl)
    obtain ⟨la, eas', hea', hlast⟩ : ∃ la eas', eas = eas' ++ [la] ∧ IsEnt K F' la le := by
      rcases List.eq_nil_or_concat eas with z | ⟨eas', la, z⟩
      · rw [z] at hA
        have := hA.len
        simp at this
      · rw [List.concat_eq_append] at z
        refine ⟨la, eas', z, ?_⟩
        have hh := hA.get (i := eas'.length) (a := la) (by rw [z]; simp)
        obtain ⟨x, hx, hI⟩ := hh
        have hl := hA.len
        rw [z, List.length_append, List.length_append] at hl
        have : had.length = eas'.length := by simpa using hl.symm
        rw [← this] at hx
        simp at hx
        rw [hx]
        exact hI
    obtain ⟨ex, na, x1, x2⟩ := hlast.mono g5.fr
    have st5' := st5
    refine ⟨_, rfl, .inl ⟨rfl, _, SqL.of el5⟩, _, rfl, _, rfl, _, rfl, _, rfl, _, _, _, _, rfl, rfl, .of el5, (by rw [hea', rV_snoc]; exact atI_last _ _), la, _, ex, _, _, rfl, r5.sub _ _ x1, T.c_Entry, T.a_Entry_chainage, rfl, _, rfl, _, _, _, _, rfl, ra, ya, sl, t, rr.drop 1, b, n1, n2, m, had ++ [le], nl, F5, rfl, rfl, by rw [last_snoc], rfl, st5', fun e q' => ?_, fun e2 r2' q' => ⟨fun c'' => ?_, fun H6 F6 ea2 g6 st6 hea6 => ?_⟩⟩
    · rw [q'] at cR
      exact (heR _ cR).at g05.keep
    · rw [q'] at cR
      have cR2 : contR b n1 n2 m n' (had ++ [le] ++ [e2]) r2' = .error (stuckK r2', (front r2').at_) := if_pos c''
      have := (heR _ (cR.trans cR2)).at g05.keep
      rwa [show stuckK r2' = 1 from if_pos c''] at this
    · rw [q'] at cR
      obtain ⟨lt2, few2, _⟩ := entry_ok q'
      have el6 : H6 el = some (.lst (rV eas)) := g6.keep _ _ nel el5
      have fel6 : F6 el = none := (g6.new _ _ el5).trans fel5
      have g06 := g05.trans g6 st5.there
      refine ⟨el, _, _, rfl, rfl, el6, ?_, ?_⟩
      · rw [rV_len, hA.len]
        exact small_line (by omega)
      · have lh : (had ++ [le] ++ [e2]).length = (had ++ [le]).length + 1 := by simp
        refine ⟨r2'.length, by omega, F6, had ++ [le], e2, r2', n', eas ++ [ea2], rfl, g06.own hel0 fel6, ?_, ?_, fel6, ?_, by omega, rfl, ?_, by omega⟩
        · rw [lh, ← Nat.add_assoc]
          exact st6.off nel fel6
        · rw [upd_same, rV_snoc]
        · exact (hA.imp fun _ _ h => (h.mono g5.fr).mono g6.fr).snoc hea6
        · rw [← hR, cR]
  · rw [decide_eq_false q44]
    have cR : contR b n1 n2 m n (had ++ [le]) rr = .ok (had ++ [le], rr) := by
      unfold contR
      rw [if_neg c', if_neg q44]
    have oo := ho _ _ (hR.symm.trans cR)
    refine iteF ⟨_, rfl, oo H4 _ el eas (g4.freeze hel0 fel' el4) (st4.fix nel fel' el4) upd_same (hA.imp fun _ _ => IsEnt.mono (same_upd fel'))⟩
end
end CB
end
section
set_option Elab.async false
set_option linter.all false
set_option maxRecDepth 100000
set_option maxHeartbeats 4000000
namespace CB
open PySem PySem.Spec PyProof.Rows L2
open LsText (Bytes ascii Token numberOf isDigit)
open LsChain (front stuck fail sign isWord word num KEPT name Book beside newName knownIn unitIn Told entry Mark lineIn entriesFrom)
def lineStep (b : Book) (l : List Token) : LsChain.Got Book := if isWord "line" l = true then (if 64 ≤ b.lines.length then fail 6 l else lineIn b (l.drop 1)) else stuck l
def spReadLine (K : PySem.W.Frag) : Sp := sp2 fun x y H Q E => ∃ (ra ya sl : Addr) (t : Bytes) (l : List Token) (b : Book) (F : Hp), x = .ref ra ∧ y = .ref ya ∧ RT K H F ra ya sl t l (nmsB b) b.lines.length b.entries ∧
  (∀ e, lineStep b l = .error e → FailP K (M3 ra ya sl) e.1 e.2 H E) ∧ (∀ n1 n2 m es r, lineStep b l = .ok (part b n1 n2 m es, r) → ∀ H2 F2 la, Gm (M3 ra ya sl) H F H2 F2 → RT K H2 F2 ra ya sl t r (nmsB (part b n1 n2 m es)) (b.lines.length + 1) (b.entries + es.length) → IsLin K F2 la (n1, n2, m, es) → Q (.ref la) H2)
section
variable {P : Program} {w : World} {K : PySem.W.Frag} {mg : Str → Option Value} {base : Heap}
theorem ok_read_line (T : Txt K mg) : Ok P w K mg base (L2.CX P w) 11 ("read_line", none) ["reader", "tally"] (spReadLine K) := by
  refine mk_okX T 83 rfl sc_read_line T.g_read_line (fun _ _ _ _ _ _ us hl => match us, hl with | [_, _], _ => rfl) len2 (fun cdv A outer s H vs Q E hr h => ?_)
  refine ⟨_, (pss_cons (ps_if (PW.pt (pw_and (pt_cmpR op_ge (pe_fld (pv 1) rfl) (pe_cst T.m_MOST_LINES) (nomark _)) (pw_and1 (pt_val (pe_mX (pv 0) T.c_Reader T.h_Reader_sees_word (ok_Reader_sees_word T) hr (takes_of rfl rfl rfl rfl) (pa_cons pe_str pa_nil)))))) (pss_one (ps_raiseF rfl T hr (takes_of rfl rfl rfl rfl) (pa_cons (pe_cst T.m_TOO_MANY) (pa_cons (pe_mX0 (pv 0) T.c_Reader T.h_Reader_place (ok_Reader_place T) hr (takes_of rfl rfl rfl rfl)) pa_nil)))) pss_nil)
      (pss_cons (ps_expr (pe_mX (pv 0) T.c_Reader T.h_Reader_take_word (ok_Reader_take_word T) hr (takes_of rfl rfl rfl rfl) (pa_cons pe_str pa_nil)))
      (pss_cons (ps_expr (pe_m0 (pv 1) T.c_Tally T.h_Tally_add_line (ok_Tally_add_line T) hr))
      (pss_cons (ps_set (i := 2) sc_read_line.nd rfl (Or.inl rfl) (pe_mX0 (pv 0) T.c_Reader T.h_Reader_take_name (ok_Reader_take_name T) hr (takes_of rfl rfl rfl rfl)))
      (pss_cons (ps_expr (pe_mX (pv 0) T.c_Reader T.h_Reader_take_word (ok_Reader_take_word T) hr (takes_of rfl rfl rfl rfl) (pa_cons pe_str pa_nil)))
      (pss_cons (ps_set (i := 3) sc_read_line.nd rfl (Or.inl rfl) (pe_mX0 (pv 0) T.c_Reader T.h_Reader_place (ok_Reader_place T) hr (takes_of rfl rfl rfl rfl)))
      (pss_cons (ps_set (i := 4) sc_read_line.nd rfl (Or.inl rfl) (pe_mX0 (pv 0) T.c_Reader T.h_Reader_take_name (ok_Reader_take_name T) hr (takes_of rfl rfl rfl rfl)))
      (pss_cons (ps_if (pt_cmpR (op_eqD hr.units) (pv 4) (pv 2) (nomark _)) (pss_one (ps_raiseF rfl T hr (takes_of rfl rfl rfl rfl) (pa_cons (pe_cst T.m_SAME_STATION) (pa_cons (pv 3) pa_nil)))) pss_nil)
      (pss_cons (ps_expr (pe_mX (pv 0) T.c_Reader T.h_Reader_take_word (ok_Reader_take_word T) hr (takes_of rfl rfl rfl rfl) (pa_cons pe_str pa_nil)))
      (pss_cons (ps_set (i := 5) sc_read_line.nd rfl (Or.inl rfl) (pe_mX (pv 0) T.c_Reader T.h_Reader_take_number (ok_Reader_take_number T) hr (takes_of rfl rfl rfl rfl) (pa_cons pe_int (pa_cons (pe_cst T.m_TOP_LINKS) pa_nil))))
      (pss_cons (ps_set (i := 6) sc_read_line.nd rfl (Or.inl rfl) (pe_cX (ok_read_entries T) hr (takes_of rfl rfl rfl rfl) (pa_cons (pv 0) (pa_cons (pv 1) (pa_cons (pv 5) pa_nil)))))
      (pss_cons (ps_expr (pe_mX (pv 0) T.c_Reader T.h_Reader_take_sign (ok_Reader_take_sign T) hr (takes_of rfl rfl rfl rfl) (pa_cons (pe_cst T.m_SEMICOLON) pa_nil)))
      (pss_one (ps_ret (pe_k T.k_Line (ok_Line___init__ T) hr (pa_cons (pv 2) (pa_cons (pv 4) (pa_cons (pv 5) (pa_cons (pv 6) pa_nil))))))))))))))))))), ?_⟩
  obtain ⟨x0, x1, rfl, h⟩ := h
  obtain ⟨ra, ya, sl, t, l, b, F, rfl, rfl, st, he, ho⟩ := h
  have rd := st.rd
  obtain ⟨dx, ta, tk0, hra⟩ := rd.ins
  obtain ⟨dy, as, k1, k2, k3, k4, k5, k6⟩ := id st.ty
  have stE : (front l).tok ≠ .word (ascii "line") → FailP K (M3 ra ya sl) (stuckK l) (front l).at_ H E := fun q => he (stuckK l, (front l).at_) (by
    unfold lineStep
    rw [word_is, decide_eq_false q]
    rfl)
  refine ⟨_, rfl, ya, _, dy, _, _, rfl, k1, T.c_Tally, T.a_Tally_many_lines, rfl, _, _, rfl, rfl, _, rfl, ?_⟩
  have main : ∀ (H0 : Hp), Same H H0 → ¬ 64 ≤ b.lines.length ∨ (front l).tok ≠ .word (ascii "line") → ∀ D : Ends, D.rt = Q →
      tSeq (tDrop (tMeth (He.ga K "Reader") "take_word" (spTakeWord K) [] E (tVar 0) (tCons (tC (.str "line")) tNil))) tNext D [some (.ref ra), some (.ref ya), none, none, none, none, none] H0 → True := fun _ _ _ _ _ _ => trivial
  clear main
  by_cases c64 : 64 ≤ b.lines.length
  · rw [decide_eq_true (show (b.lines.length : Int) ≥ 64 by omega)]
    refine iteT ⟨_, rfl, ra, dx, _, rfl, hra, rfl, _, _, rfl, ra, t, l, F, _, ascii "line", rfl, rfl, st_lit, by decide, rd, fun c => ?_, fun c H1 s1 => ⟨_, rfl, ?_⟩⟩
    · have := (stE (by rw [c]; intro z; cases z)).in1 (.of (Same.refl _))
      rwa [show stuckK l = 1 from if_pos c] at this
    by_cases q : (front l).tok = .word (ascii "line")
    · rw [decide_eq_true q]
      have f6 : lineStep b l = .error (6, (front l).at_) := by
        unfold lineStep
        rw [word_is, decide_eq_true q, if_pos rfl, if_pos c64]
        rfl
      refine iteT ⟨_, rfl, ra, dx, _, rfl, s1 _ _ hra, rfl, _, rfl, ra, t, l, F, rfl, rd.more s1, fun c' => absurd c' c, fun _ => ⟨_, _, rfl, fun d hd => ((he _ f6).at (.of s1)).go hd⟩⟩
    · rw [decide_eq_false q]
      refine iteF ⟨_, rfl, ra, dx, _, rfl, s1 _ _ hra, rfl, _, _, rfl, ra, t, l, F, _, ascii "line", rfl, rfl, st_lit, by decide, rd.more s1, fun z => absurd z q, fun _ => ?_⟩
      exact (stE q).in1 (.of s1)
  · rw [decide_eq_false (show ¬ (b.lines.length : Int) ≥ 64 by omega)]
    refine iteF (iteF ⟨_, rfl, ra, dx, _, rfl, hra, rfl, _, _, rfl, ra, t, l, F, _, ascii "line", rfl, rfl, st_lit, by decide, rd, fun q H1 F1 g1 r1 => ?_, fun q => (stE q).in1 (.of (Same.refl _))⟩)
    have lin : lineStep b l = lineIn b (l.drop 1) := by
      unfold lineStep
      rw [word_is, decide_eq_true q, if_pos rfl, if_neg c64]
    rw [lin] at he ho
    clear lin stE
    have st1 := st.go g1 r1
    have g01 : Gm (M3 ra ya sl) H F H1 F1 := g1.to3
    obtain ⟨d1, d2, d3⟩ := st1.diff
    obtain ⟨dy1, as1, j1, _⟩ := id st1.ty
    refine ⟨_, rfl, ya, dy1, _, rfl, j1, rfl, _, rfl, ya, sl, nmsB b, b.lines.length, b.entries, F1, rfl, st1.rd.sub, st1.ty, fun H2 g2 ty2 => ?_⟩
    have rd2 := st1.rd.tly g2 (fun z => d1 (Eq.symm z))
    have st2 : RT K H2 F1 ra ya sl t (l.drop 1) (nmsB b) (b.lines.length + 1) b.entries := ⟨rd2, ty2⟩
    have g02 := g01.trans (g2.mono one_ya) st1.there
    have lin : lineIn b (l.drop 1) = match name (l.drop 1) with
        | .error e => .error e
        | .ok (x, r) => match word "to" r with
          | .error e => .error e
          | .ok s => match name s with
            | .error e => .error e
            | .ok (y, u) => if x = y then fail 7 s else match word "measures" u with
              | .error e => .error e
              | .ok v => match num 1 100000 v with
                | .error e => .error e
                | .ok (m, w) => if (front w).tok = .sign 59 then .ok (part b x y m [], w.drop 1) else match sign 58 w with
                  | .error e => .error e
                  | .ok z => match entriesFrom b x y m z.length [] z with
                    | .error e => .error e
                    | .ok (es, q) => .ok (part b x y m es, q.drop 1) := rfl
    obtain ⟨dx2, ta2, tk2, hra2⟩ := rd2.ins
    refine ⟨_, rfl, ra, dx2, _, rfl, hra2, rfl, _, rfl, ra, t, l.drop 1, F1, rfl, rd2, fun x l3 e3 H3 F3 xa g3 r3 hxa => ?_, fun e hk => ?_⟩
    rotate_left
    · rw [hk] at lin
      exact (he _ lin).in1 g02.keep
    rw [e3] at lin
    simp only at lin
    have st3 := st2.go g3 r3
    have g03 := g02.trans g3.to3 st2.there
    obtain ⟨dx3, ta3, tk3, hra3⟩ := r3.ins
    refine ⟨_, rfl, ra, dx3, _, rfl, hra3, rfl, _, _, rfl, ra, t, l3, F3, _, ascii "to", rfl, rfl, st_lit, by decide, r3, fun q4 H4 F4 g4 r4 => ?_, fun z => ?_⟩
    rotate_left
    · rw [word_no z] at lin
      exact (he _ lin).in1 g03.keep
    rw [word_yes q4] at lin
    simp only at lin
    have st4 := st3.go g4 r4
    have g04 := g03.trans g4.to3 st3.there
    obtain ⟨dx4, ta4, tk4, hra4⟩ := r4.ins
    refine ⟨_, rfl, ra, dx4, _, rfl, hra4, rfl, _, rfl, ra, t, l3.drop 1, F4, rfl, r4, fun c => ?_, fun c => ?_⟩
    · have e : name (l3.drop 1) = .error (stuckK (l3.drop 1), (front (l3.drop 1)).at_) := name_no (by unfold isNameB; rw [c])
      rw [e] at lin
      have := (he _ lin).in1 g04.keep
      rwa [show stuckK (l3.drop 1) = 1 from if_pos c] at this
    refine ⟨_, rfl, ra, dx4, _, rfl, hra4, rfl, _, rfl, ra, t, l3.drop 1, F4, rfl, r4, fun y l5 e5 H5 F5 ya' g5 r5 hya => ?_, fun e hk => ?_⟩
    rotate_left
    · rw [hk] at lin
      exact (he _ lin).in1 g04.keep
    rw [e5] at lin
    simp only at lin
    have st5 := st4.go g5 r5
    have g05 := g04.trans g5.to3 st4.there
    have hxa5 : IsName F5 xa x := (hxa.mono g4.fr).mono g5.fr
    refine ⟨_, rfl, _, rfl, nmD y, nmD x, (hya.mono r5.sub).dp, (hxa5.mono r5.sub).dp, nmD_shaped y, nmD_shaped x, _, rfl, ?_⟩
    rw [nmD_eqv]
    by_cases cxy : x = y
    · rw [decide_eq_true cxy.symm]
      rw [if_pos cxy] at lin
      exact iteT ⟨_, rfl, _, _, rfl, fun d hd => ((he _ lin).at g05.keep).go hd⟩
    rw [decide_eq_false (fun z => cxy (Eq.symm z))]
    rw [if_neg cxy] at lin
    obtain ⟨dx5, ta5, tk5, hra5⟩ := r5.ins
    refine iteF ⟨_, rfl, ra, dx5, _, rfl, hra5, rfl, _, _, rfl, ra, t, l5, F5, _, ascii "measures", rfl, rfl, st_lit, by decide, r5, fun q6 H6 F6 g6 r6 => ?_, fun z => ?_⟩
    rotate_left
    · rw [word_no z] at lin
      exact (he _ lin).in1 g05.keep
    rw [word_yes q6] at lin
    simp only at lin
    have st6 := st5.go g6 r6
    have g06 := g05.trans g6.to3 st5.there
    obtain ⟨dx6, ta6, tk6, hra6⟩ := r6.ins
    refine ⟨_, rfl, ra, dx6, _, rfl, hra6, rfl, _, _, _, rfl, ra, t, l5.drop 1, F6, 1, 100000, rfl, rfl, rfl, r6, fun m l7 e7 H7 F7 g7 r7 => ?_, fun e hk => ?_⟩
    rotate_left
    · rw [hk] at lin
      exact (he _ lin).in1 g06.keep
    rw [e7] at lin
    simp only at lin
    have st7 := st6.go g7 r7
    have g07 := g06.trans g7.to3 st6.there
    have hxa7 : IsName F7 xa x := (hxa5.mono g6.fr).mono g7.fr
    have hya7 : IsName F7 ya' y := (hya.mono g6.fr).mono g7.fr
    -- the end: the sign, and the line is made
    have fin : ∀ (es : List LsChain.Entry) (r : List Token) (H8 F8 : Hp) (ea : Addr) (eas : List Addr), Gm (M3 ra ya sl) H7 F7 H8 F8 → RT K H8 F8 ra ya sl t r (nmsB (part b x y m es)) (b.lines.length + 1) (b.entries + es.length) → F8 ea = some (.lst (rV eas)) → All2 (IsEnt K F8) eas es →
        ((front r).tok = .sign 59 → lineIn b (l.drop 1) = .ok (part b x y m es, r.drop 1)) → ((front r).tok ≠ .sign 59 → lineIn b (l.drop 1) = .error (stuckK r, (front r).at_)) →
        tSeq (tDrop (tMeth (He.ga K "Reader") "take_sign" (spTakeSign K) [] E (tVar 0) (tCons (tC (.int 59)) tNil))) (tRet (tMake (He.ga K "Line") (spLineI K) [] E0 (tCons (tVar 2) (tCons (tVar 4) (tCons (tVar 5) (tCons (tVar 6) tNil))))))
          { nx := fun _ H' => Q .non H', rt := Q } [some (.ref ra), some (.ref ya), some (.ref xa), some (.int ((front (l3.drop 1)).at_ : Int)), some (.ref ya'), some (.int (m : Int)), some (.ref ea)] H8 := fun es r H8 F8 ea eas g8 st8 hea hA y1 y2 => by
      have g08 := g07.trans g8 st7.there
      obtain ⟨dx8, ta8, tk8, hra8⟩ := st8.rd.ins
      refine ⟨_, rfl, ra, dx8, _, rfl, hra8, rfl, _, _, rfl, ra, t, r, F8, 59, rfl, rfl, st8.rd, fun q9 H9 F9 g9 r9 => ?_, fun z => (he _ (y2 z)).in1 g08.keep⟩
      have st9 := st8.go g9 r9
      refine ⟨_, rfl, _, rfl, _, rfl, _, rfl, fun z dz nx nd nx2 => ⟨_, _, _, _, _, rfl, z, dz, rfl, upd_same, rfl, ?_⟩⟩
      have gr : Gr H9 F9 _ _ := (Gr.refl st9.rd.sub).made (C := He.ga K "Line") (fs := linF xa ya' ea m) nx nd nx2
      exact ho x y m es _ (y1 q9) _ _ z ((g08.trans g9.to3 st8.there).gr gr st9.there) (st9.gr gr) ⟨dz, xa, ya', ea, eas, upd_same, ((hxa7.mono g8.fr).mono g9.fr).mono gr.fr, ((hya7.mono g8.fr).mono g9.fr).mono gr.fr, gr.fr _ _ (g9.fr _ _ hea), hA.imp fun _ _ h => (h.mono g9.fr).mono gr.fr⟩
    refine ⟨_, rfl, _, rfl, _, rfl, _, _, _, rfl, ra, ya, sl, t, l7, b, x, y, m, b.lines.length + 1, F7, rfl, rfl, rfl, st7, fun c => ?_, fun c1 c2 H8 F8 ea g8 st8 hea => ?_, fun c => ⟨fun e hk => ?_, fun es r hk H8 F8 ea eas g8 st8 hea hA => ?_⟩⟩
    · rw [c, if_neg (by intro z; cases z), sign_no (by rw [c]; intro z; cases z)] at lin
      have := (he _ lin).at g07.keep
      rwa [show stuckK l7 = 1 from if_pos c] at this
    · refine fin [] l7 H8 F8 ea [] g8 ?_ hea .nil (fun z => ?_) (fun z => ?_)
      · rw [nms_part_nil]
        exact st8
      · rw [lin, if_pos z]
      · rw [lin, if_neg z, sign_no c2]
    · rw [c, if_neg (by intro z; cases z), sign_yes c] at lin
      simp only at lin
      rw [ents_is, hk] at lin
      exact (he _ lin).at g07.keep
    · rw [c, if_neg (by intro z; cases z), sign_yes c] at lin
      simp only at lin
      rw [ents_is, hk] at lin
      simp only at lin
      refine fin es r H8 F8 ea eas g8 st8 hea hA (fun z => ?_) (fun z => ?_)
      · rw [lin, if_pos z]
      · rw [lin, if_neg z]
        rfl
end
end CB
end
section
set_option Elab.async false
set_option linter.all false
set_option maxRecDepth 100000
set_option maxHeartbeats 4000000
namespace CB
open PySem PySem.Spec PyProof.Rows L2
open LsText (Bytes ascii Token numberOf isDigit)
open LsChain (front stuck fail sign isWord word num KEPT name Book beside newName knownIn unitIn Told entry Mark lineIn entriesFrom sentences)
theorem sent_line {n : Nat} {c : Book} {l : List Token} (u : NU c l) (no : (front l).tok ≠ .over) (h : ¬ isWord "known" l = true) : sentences (n + 1) c l = match lineStep c l with
      | .error e => .error e
      | .ok (d, r) => sentences n d r := by
  refine (if_neg no).trans ((if_neg u).trans ((if_neg h).trans ?_))
  unfold lineStep
  by_cases w : isWord "line" l = true
  · rw [if_pos w, if_pos w]
    by_cases c64 : 64 ≤ c.lines.length
    · rw [if_pos (show LsChain.LINES ≤ _ from c64), if_pos c64]
      rfl
    · rw [if_neg (show ¬ LsChain.LINES ≤ _ from c64), if_neg c64]
      rfl
  · rw [if_neg w, if_neg w]
    rfl
section
variable {K : PySem.W.Frag} {M : Addr → Prop} {H F H1 F1 H2 F2 : Hp} {ra ya sl p : Addr} {t : Bytes} {l r : List Token} {S : List Bytes} {nl ne : Nat} {o : HO}
theorem Gr.outM (a : Gr H F H1 F1) (g : Gm M H1 F1 H2 F2) (n : ∀ b, M b → H b = none) : Gr H F H2 F2 where
  keep := fun b u e => g.keep b u (fun z => by rw [n b z] at e; cases e) (a.keep b u e)
  fr := a.fr.trans g.fr
  sub := g.sub
  new := fun b u e => (g.new b u (a.keep b u e)).trans (a.new b u e)
theorem FailP.newM {k a : Nat} {E : XK} (f : FailP K (fun _ => False) k a H E) (s : Same H H1) (n : ∀ b, M b → H b = none) : FailP K M k a H1 E := fun d H2 kp e => f d H2 (fun b u _ q => kp b u (fun z => by rw [n b z] at q; cases q) (s b u q)) e
theorem Rdr.gm (h : Rdr K H F ra t l) (g : Gm M H F H2 F2) (n : ¬ M ra) : Rdr K H2 F2 ra t l := by
  obtain ⟨p, dx, ta, tk, h1, h2, h3, h4, h5, h6, h7, h8⟩ := h
  exact ⟨p, dx, ta, tk, h1, h2, h3, g.keep _ _ n h4, (g.new _ _ h4).trans h5, g.fr _ _ h6, h7.mono g.fr, g.sub⟩
end
def spReadBehind (K : PySem.W.Frag) : Sp := sp2 fun x y H Q E => ∃ (ga ta : Addr) (b : Book) (t : Bytes) (F : Hp), x = .ref ga ∧ y = .ref ta ∧ IsBook K F ga b ∧ F ta = some (.lst (bV t)) ∧ t.length ≤ 100000 ∧ Same F H ∧
  (∀ e, LsChain.read b t = .error e → FailP K (fun _ => False) e.1 e.2 H E) ∧ (∀ c, LsChain.read b t = .ok c → Res H F Q (RBook K c))
theorem Rdr.w31 {K : PySem.W.Frag} {H F : Hp} {ra : Addr} {t : Bytes} {l : List Token} (r : Rdr K H F ra t l) : W31 l := by
  obtain ⟨p, dx, ta, tk, h1, h2, h3, _⟩ := r
  rw [h3]
  exact toks_w31 t p
def rListOf (K : PySem.W.Frag) : List V → Hp → VK → Prop := fun xs H Q => ∃ p ys, xs = [V.ref p] ∧ (SqL K H p ys ∨ SqT K H p ys) ∧ ∀ l, H l = none → Q (.ref l) (upd H l (.lst ys))
def tRest (K : PySem.W.Frag) (E : XK) : TS :=
  tSeq (tAsg (tCB (rListOf K) (tCons (tFld K (tVar 0) "sentences") tNil)) (gName 6))
    (tSeq (tWhile (tNot (tB (tMeth (He.ga K "Reader") "sees" (spSees K) [] E (tVar 2) (tCons (tC (.int 1)) tNil))))
      (tIfS (tB (tMeth (He.ga K "Reader") "sees_word" (spSeesWord K) [] E (tVar 2) (tCons (tC (.str "known")) tNil)))
        (tDrop (tBM K "list" rAppend (tVar 6) (tCons (tCall (spReadKnown K) [] E (tCons (tVar 2) (tCons (tVar 3) tNil))) tNil)))
        (tDrop (tBM K "list" rAppend (tVar 6) (tCons (tCall (spReadLine K) [] E (tCons (tVar 2) (tCons (tVar 3) tNil))) tNil)))))
      (tRet (tMake (He.ga K "Book") (spBookI K) [] E0 (tCons (tVar 4) (tCons (tVar 5) (tCons (tVar 6) tNil))))))
theorem nothing_is (b : Book) : nothingTold b = true ↔ b.unit = none ∧ b.told = [] := by
  unfold nothingTold hasUnit
  cases b.unit <;> cases b.told <;> simp
section
variable {P : Program} {w : World} {K : PySem.W.Frag} {mg : Str → Option Value} {base : Heap}
theorem ok_read_behind (T : Txt K mg) : Ok P w K mg base (L2.CX P w) 12 ("read_behind", none) ["ground", "text"] (spReadBehind K) := by
  refine mk_okX T 79 rfl sc_read_behind T.g_read_behind (fun _ _ _ _ _ _ us hl => match us, hl with | [_, _], _ => rfl) len2 (fun cdv A outer s H vs Q E hr h => ?_)
  refine ⟨_, (pss_cons (ps_set (i := 2) sc_read_behind.nd rfl (Or.inl rfl) (pe_k T.k_Reader (ok_Reader___init__ T) hr (pa_cons (pv 1) pa_nil)))
      (pss_cons (ps_set (i := 3) sc_read_behind.nd rfl (Or.inl rfl) (pe_k T.k_Tally (ok_Tally___init__ T) hr (pa_cons (pv 0) pa_nil)))
      (pss_cons (ps_par (i := 4) (j := 5) (by rfl) sc_read_behind.nd rfl rfl (by decide) rfl rfl (pa_cons (pe_fld (pv 0) rfl) (pa_cons (pe_fld (pv 0) rfl) pa_nil)) (by rfl))
      (pss_cons (ps_if (PW.pt (pw_and (pt_val (pe_c (ok_is_nothing_told T) hr (pa_cons (pv 0) pa_nil))) (pw_and1 (pt_val (pe_mX (pv 2) T.c_Reader T.h_Reader_sees_word (ok_Reader_sees_word T) hr (takes_of rfl rfl rfl rfl) (pa_cons pe_str pa_nil)))))) (pss_one (ps_asg (pe_cX (ok_read_unit T) hr (takes_of rfl rfl rfl rfl) (pa_cons (pv 2) pa_nil)) (pg_tup (by rfl) (pgs_cons (pg_name (i := 4) sc_read_behind.nd rfl (Or.inl rfl)) (pgs_cons (pg_name (i := 5) sc_read_behind.nd rfl (Or.inl rfl)) pgs_nil))))) pss_nil)
      (pss_cons (ps_set (i := 6) sc_read_behind.nd rfl (Or.inl rfl) (pe_callTy call_list_of (by rfl) T.n_list (by decide +kernel) (pa_cons (pe_fld (pv 0) rfl) pa_nil)))
      (pss_cons (ps_while (passes_of rfl) (pt_not (pt_val (pe_mX (pv 2) T.c_Reader T.h_Reader_sees (ok_Reader_sees T) hr (takes_of rfl rfl rfl rfl) (pa_cons (pe_cst T.m_END) pa_nil)))) (pss_one (ps_if (pt_val (pe_mX (pv 2) T.c_Reader T.h_Reader_sees_word (ok_Reader_sees_word T) hr (takes_of rfl rfl rfl rfl) (pa_cons pe_str pa_nil))) (pss_one (ps_expr (pe_bm PySem.F.plainAttrs_list PySem.F.slot_list_append PySem.F.type_list_append mt_append (pv 6) (pa_cons (pe_cX (ok_read_known T) hr (takes_of rfl rfl rfl rfl) (pa_cons (pv 2) (pa_cons (pv 3) pa_nil))) pa_nil)))) (pss_one (ps_expr (pe_bm PySem.F.plainAttrs_list PySem.F.slot_list_append PySem.F.type_list_append mt_append (pv 6) (pa_cons (pe_cX (ok_read_line T) hr (takes_of rfl rfl rfl rfl) (pa_cons (pv 2) (pa_cons (pv 3) pa_nil))) pa_nil)))))))
      (pss_one (ps_ret (pe_k T.k_Book (ok_Book___init__ T) hr (pa_cons (pv 4) (pa_cons (pv 5) (pa_cons (pv 6) pa_nil)))))))))))), ?_⟩
  obtain ⟨x0, x1, rfl, h⟩ := h
  obtain ⟨ga, ta, b, t, F, rfl, rfl, hb, fta, hl, hF, he, ho⟩ := h
  have rin : LsChain.read b t = sentences (t.length + 1) b (toks t 0) := rfl
  rw [rin] at he ho
  clear rin
  obtain ⟨wf, bx, bsa, bas, b1, b2, b3⟩ := id hb
  -- the reader
  refine ⟨_, rfl, fun rx dx nrx ndx nxx => ?_⟩
  have g1 : Gr H F (upd (upd H dx (.own rx)) rx (.ins (He.ga K "Reader") dx [])) F := ((Gr.refl hF).add ndx).add (by rw [upd_ne (Ne.symm nxx)]; exact nrx)
  refine ⟨_, _, rfl, rx, dx, ta, t, F, rfl, rfl, upd_same, fta, hl, g1.sub, hF.free nrx, fun H2 F2 g2 rd2 => ⟨rfl, ?_⟩⟩
  have n1 : ∀ b, oneM rx b → H b = none := fun b z => by rw [show b = rx from z]; exact nrx
  have g02 : Gr H F H2 F2 := g1.outM g2 n1
  -- the tally
  refine ⟨_, rfl, fun yx dy nyx ndy nyy => ?_⟩
  have nyH : H yx = none := g02.keep.free nyx
  have g3 : Gr H2 F2 (upd (upd H2 dy (.own yx)) yx (.ins (He.ga K "Tally") dy [])) F2 := ((Gr.refl g02.sub).add ndy).add (by rw [upd_ne (Ne.symm nyy)]; exact nyx)
  have rd3 := rd2.keep g3.keep g3.fr g3.sub rd2.out
  refine ⟨_, _, rfl, yx, dy, ga, b, F2, rfl, rfl, upd_same, hb.mono g02.fr, g3.sub, g02.sub.free nyx, fun H4 F4 sl g4 nsl ty4 => ⟨rfl, ?_⟩⟩
  have nslH : H sl = none := (g02.trans g3).keep.free nsl
  have g04 : Gr H F H4 F4 := (g02.trans g3).outM g4 fun b z => by rw [show b = yx from z]; exact nyH
  have nry : rx ≠ yx := fun z => by
    obtain ⟨a1, a2, a3, a4⟩ := rd2.ins
    rw [z, nyx] at a4
    cases a4
  have rd4 := rd3.gm g4 nry
  have st4 : RT K H4 F4 rx yx sl t (toks t 0) (nmsB b) b.lines.length b.entries := ⟨rd4, ty4⟩
  have newM : ∀ a, M3 rx yx sl a → H a = none := fun a z => by
    rcases z with rfl | rfl | rfl
    · exact nrx
    · exact nyH
    · exact nslH
  have bI : ∀ {H' : Hp}, Same H H' → H' ga = some (.ins (He.ga K "Book") bx (bokF bsa b.unit)) := fun s => s _ _ (hF _ _ b1)
  refine ⟨_, rfl, ga, _, bx, _, _, rfl, bI g04.keep, T.c_Book, T.a_Book_metres, rfl, _, rfl, ga, _, bx, _, _, rfl, bI g04.keep, T.c_Book, T.a_Book_links, rfl, _, _, rfl, ?_⟩
  -- the sentences, one behind the other
  have loop : ∀ (H5 F5 : Hp) (c : Book) (l : List Token) (n : Nat), Gr H F H5 F5 → RT K H5 F5 rx yx sl t l (nmsB c) c.lines.length c.entries → WfB c → c.told = b.told → l.length ≤ n → NU c l → sentences n c l = sentences (t.length + 1) b (toks t 0) →
      tRest K E { nx := fun _ H' => Q .non H', rt := Q } [some (.ref ga), some (.ref ta), some (.ref rx), some (.ref yx), some (.int (unM c.unit : Int)), some (.int (unL c.unit : Int)), none] H5 := fun H5 F5 c0 l0 n0 g5 st5 wf5 et ln5 nu5 eS => by
    refine ⟨_, rfl, ga, _, bx, _, _, rfl, bI g5.keep, T.c_Book, T.a_Book_sentences, rfl, bsa, rV bas, rfl, .inl (.of (g5.keep _ _ (hF _ _ b2))), fun se hse => ?_⟩
    have hseH : H se = none := g5.keep.free hse
    have nse : ¬ M3 rx yx sl se := st5.notin hse
    have fse5 : F5 se = none := g5.sub.free hse
    have tA : All2 (IsTold K F5) bas c0.told := by
      rw [et]
      exact b3.imp fun _ _ => IsTold.mono g5.fr
    refine ⟨fun μ σ H' => ∃ (F' : Hp) (c : Book) (l : List Token) (n : Nat) (sas : List Addr), σ = [some (.ref ga), some (.ref ta), some (.ref rx), some (.ref yx), some (.int (unM c0.unit : Int)), some (.int (unL c0.unit : Int)), some (.ref se)] ∧ Gr H F H' F' ∧ RT K H' F' rx yx sl t l (nmsB c) c.lines.length c.entries ∧ WfB c ∧ H' se = some (.lst (rV sas)) ∧ F' se = none ∧ All2 (IsTold K F') sas c.told ∧
      l.length ≤ n ∧ μ = l.length ∧ NU c l ∧ sentences n c l = sentences (t.length + 1) b (toks t 0) ∧ c.unit = c0.unit, ⟨_, F5, c0, l0, n0, bas, rfl, g5.add hse, st5.off nse fse5, wf5, upd_same, fse5, tA, ln5, rfl, nu5, eS, rfl⟩, ?_⟩
    rintro μ σ H' ⟨F', c, l, n, sas, rfl, g', st', wf', hse', fse', hA, ln, rfl, nu, eR, eu⟩
    obtain ⟨dx', ta', tk', hra'⟩ := st'.rd.ins
    obtain ⟨n', hn'⟩ : ∃ n', n = n' + 1 := by
      have := st'.rd.pos
      exact ⟨n - 1, by omega⟩
    subst hn'
    rw [← eR] at he ho
    refine ⟨_, rfl, rx, dx', _, rfl, hra', rfl, _, _, rfl, rx, t, l, F', 1, rfl, rfl, st'.rd, fun c0' => ?_, fun nn => ⟨_, rfl, ?_⟩⟩
    · have : sentences (n' + 1) c l = .error (stuckK l, (front l).at_) := by
        rw [sent_line nu (by rw [c0']; intro z; cases z) (by rw [word_is, c0']; simp)]
        unfold lineStep
        rw [word_is, c0']
        have : stuckK l = 1 := if_pos c0'
        rw [this]
        show (match (stuck l : LsChain.Got Book) with | .error e => Except.error e | .ok (d, r) => sentences n' d r) = _
        unfold LsChain.stuck
        rw [if_pos c0']
      have f := (he _ this).newM (M := M3 rx yx sl) g'.keep newM
      rw [show stuckK l = 1 from if_pos c0'] at f
      exact f.in1 (.of (Same.refl _))
    by_cases ov : (front l).tok = .over
    · rw [show (kindOf (front l).tok == 1) = true by rw [ov]; rfl]
      rw [sent_over ov] at ho
      refine iteF ⟨_, rfl, _, rfl, _, rfl, fun x dx nx nd nx2 => ⟨_, _, _, _, rfl, x, dx, rfl, upd_same, rfl, ?_⟩⟩
      have gf := g'.freeze hseH fse' hse'
      have gm := gf.made (C := He.ga K "Book") (fs := bokF se c0.unit) nx nd nx2
      refine ho c rfl _ _ _ gm ⟨x, rfl, wf', dx, se, sas, ?_, ?_, ?_⟩
      · rw [eu]
        exact upd_same
      · rw [upd_ne (ne_some hse' nx)]
        exact upd_same
      · exact hA.imp fun _ _ h => (h.mono (same_upd fse')).mono (same_upd (free_sub gf.sub nx))
    · have k1 : (kindOf (front l).tok == 1) = false := by
        cases q : (front l).tok <;> first | rfl | exact absurd q ov
      rw [k1]
      refine iteT ⟨fun σ' H'' => ∃ m', m' < l.length ∧ ∃ (F' : Hp) (c : Book) (l : List Token) (n : Nat) (sas : List Addr), σ' = [some (.ref ga), some (.ref ta), some (.ref rx), some (.ref yx), some (.int (unM c0.unit : Int)), some (.int (unL c0.unit : Int)), some (.ref se)] ∧ Gr H F H'' F' ∧ RT K H'' F' rx yx sl t l (nmsB c) c.lines.length c.entries ∧ WfB c ∧ H'' se = some (.lst (rV sas)) ∧ F' se = none ∧ All2 (IsTold K F') sas c.told ∧
        l.length ≤ n ∧ m' = l.length ∧ NU c l ∧ sentences n c l = sentences (t.length + 1) b (toks t 0) ∧ c.unit = c0.unit, fun σ' H'' q => q, ?_⟩
      refine ⟨_, rfl, rx, dx', _, rfl, hra', rfl, _, _, rfl, rx, t, l, F', _, ascii "known", rfl, rfl, st_lit, by decide, st'.rd, fun c0' => absurd c0' nn, fun _ H6 s6 => ⟨_, rfl, ?_⟩⟩
      have st6 := st'.same s6
      have g6 : Gr H F H6 F' := ⟨g'.keep.trans s6, g'.fr, g'.sub.trans s6, g'.new⟩
      have hse6 := s6 _ _ hse'
      have w31 := st'.rd.w31
      have told : c.told.length ≤ 128 := wf'.told128
      by_cases q : (front l).tok = .word (ascii "known")
      · rw [decide_eq_true q]
        have sk := sent_known (n := n') nu (by rw [word_is]; exact decide_eq_true q)
        rw [sk] at he ho
        refine iteT ⟨_, rfl, .inl ⟨rfl, _, SqL.of hse6⟩, _, rfl, _, rfl, _, _, rfl, rx, yx, sl, t, l, c, c.lines.length, c.entries, F', rfl, rfl, st6, q, fun e hk => ?_, fun k i j r hk H7 F7 ka g7 st7 hka => ?_⟩
        · rw [hk] at he
          exact (he _ rfl).newM g6.keep newM
        · rw [hk] at sk
          obtain ⟨_, _, _, _, wf7, ln7⟩ := wf'.known (w31.drop 1) hk
          have hse7 : H7 se = some (.lst (rV sas)) := g7.keep _ _ nse hse6
          have fse7 : F7 se = none := (g7.new _ _ hse6).trans fse'
          have g07 := g6.outM g7 newM
          have ld : (l.drop 1).length ≤ l.length := by rw [List.length_drop]; omega
          refine ⟨se, _, _, rfl, rfl, hse7, ?_, ?_⟩
          · rw [rV_len, hA.len]
            exact small_line (by omega)
          · refine ⟨r.length, by omega, F7, ⟨c.unit, c.told ++ [.known k i j]⟩, r, n', sas ++ [ka], rfl, g07.mut hseH fse7, ?_, wf7, ?_, fse7, ?_, by omega, rfl, ?_, ?_, eu⟩
            · rw [nms_known, known_entries, lines_known]
              exact st7.off nse fse7
            · rw [upd_same, rV_snoc]
            · exact (hA.imp fun _ _ => IsTold.mono g7.fr).snoc hka
            · intro z
              have := z.2.2
              simp at this
            · rw [← eR, sk]
      · rw [decide_eq_false q]
        have sk := sent_line (n := n') nu ov (by rw [word_is]; simpa using q)
        rw [sk] at he ho
        refine iteF ⟨_, rfl, .inl ⟨rfl, _, SqL.of hse6⟩, _, rfl, _, rfl, _, _, rfl, rx, yx, sl, t, l, c, F', rfl, rfl, st6, fun e hk => ?_, fun n1 n2 m es r hk H7 F7 la g7 st7 hla => ?_⟩
        · rw [hk] at he
          exact (he _ rfl).newM g6.keep newM
        · rw [hk] at sk
          have hk' := hk
          unfold lineStep at hk'
          have w1 : isWord "line" l = true := by
            cases z : isWord "line" l with
            | true => rfl
            | false => rw [z, if_neg Bool.false_ne_true] at hk'; cases hk'
          rw [if_pos w1] at hk'
          have c64 : ¬ 64 ≤ c.lines.length := fun z => by rw [if_pos z] at hk'; cases hk'
          rw [if_neg c64] at hk'
          obtain ⟨_, _, _, _, _, wf7, ln7⟩ := wf'.line_ (w31.drop 1) (by omega) hk'
          have hse7 : H7 se = some (.lst (rV sas)) := g7.keep _ _ nse hse6
          have fse7 : F7 se = none := (g7.new _ _ hse6).trans fse'
          have g07 := g6.outM g7 newM
          have ld : (l.drop 1).length ≤ l.length := by rw [List.length_drop]; omega
          refine ⟨se, _, _, rfl, rfl, hse7, ?_, ?_⟩
          · rw [rV_len, hA.len]
            exact small_line (by omega)
          · refine ⟨r.length, by omega, F7, part c n1 n2 m es, r, n', sas ++ [la], rfl, g07.mut hseH fse7, ?_, wf7, ?_, fse7, ?_, by omega, rfl, ?_, ?_, eu⟩
            · rw [part_entries, part_lines]
              exact st7.off nse fse7
            · rw [upd_same, rV_snoc]
            · exact (hA.imp fun _ _ => IsTold.mono g7.fr).snoc (show IsTold K F7 la (.line n1 n2 m es) from hla)
            · intro z
              have := z.2.2
              unfold part at this
              simp at this
            · rw [← eR, sk]
  refine ⟨_, rfl, _, rfl, ga, b, rfl, hb.mono (hF.trans g04.keep), _, rfl, ?_⟩
  have len0 : (toks t 0).length ≤ t.length + 1 := toks0_le t
  cases nt : nothingTold b with
  | false =>
    refine iteF (iteF (loop H4 F4 b (toks t 0) _ g04 st4 wf rfl len0 (fun z => ?_) rfl))
    rw [(nothing_is b).mpr z.2] at nt
    cases nt
  | true =>
    obtain ⟨u1, u2⟩ := (nothing_is b).mp nt
    obtain ⟨dx4, ta4, tk4, hra4⟩ := rd4.ins
    refine iteT ⟨_, rfl, rx, dx4, _, rfl, hra4, rfl, _, _, rfl, rx, t, toks t 0, F4, _, ascii "unit", rfl, rfl, st_lit, by decide, rd4, fun c0 => ?_, fun nn H5 s5 => ⟨_, rfl, ?_⟩⟩
    · have nu0 : NU b (toks t 0) := fun z => by
        have := z.1
        rw [word_is, c0] at this
        simp at this
      have : sentences (t.length + 1) b (toks t 0) = .error (stuckK (toks t 0), (front (toks t 0)).at_) := by
        rw [sent_line nu0 (by rw [c0]; intro z; cases z) (by rw [word_is, c0]; simp)]
        unfold lineStep
        rw [word_is, c0]
        have : stuckK (toks t 0) = 1 := if_pos c0
        rw [this]
        show (match (stuck (toks t 0) : LsChain.Got Book) with | .error e => Except.error e | .ok (d, r) => sentences t.length d r) = _
        unfold LsChain.stuck
        rw [if_pos c0]
      have f := (he _ this).newM (M := M3 rx yx sl) g04.keep newM
      rw [show stuckK (toks t 0) = 1 from if_pos c0] at f
      exact f.in1 (.of (Same.refl _))
    have st5 := st4.same s5
    have g05 : Gr H F H5 F4 := ⟨g04.keep.trans s5, g04.fr, g04.sub.trans s5, g04.new⟩
    by_cases q : (front (toks t 0)).tok = .word (ascii "unit")
    · rw [decide_eq_true q]
      have su := sent_unit (n := t.length) (c := b) (l := toks t 0) ⟨by rw [word_is]; exact decide_eq_true q, u1, u2⟩
      refine iteT ⟨_, rfl, _, rfl, rx, t, toks t 0, b, F4, rfl, st5.rd, q, fun e hk => ?_, fun p1 q1 r hk H6 F6 pa g6 r6 e6 => ?_⟩
      · rw [su, hk] at he
        exact ((he _ rfl).newM (M := M3 rx yx sl) g05.keep newM).in1 (.of (Same.refl _))
      · have st6 := st5.go g6 r6
        have g06 := g05.outM g6.to3 newM
        obtain ⟨_, _, _, wf6, ln6⟩ := wf.unit_ hk
        refine ⟨pa, _, rfl, .of e6, rfl, _, _, rfl, _, _, rfl, rfl, ?_⟩
        have ld : ((toks t 0).drop 1).length < (toks t 0).length := drop_lt (by rw [q]; rfl)
        refine loop H6 F6 ⟨some (p1, q1), b.told⟩ r t.length g06 st6 wf6 rfl (by omega) (fun z => ?_) ?_
        · have := z.2.1
          cases this
        · rw [su, hk]
    · rw [decide_eq_false q]
      refine iteF (loop H5 F4 b (toks t 0) _ g05 st5 wf rfl len0 (fun z => ?_) rfl)
      have := z.1
      rw [word_is, decide_eq_false q] at this
      cases this
end
end CB
end
section
set_option Elab.async false
set_option linter.all false
set_option maxRecDepth 100000
set_option maxHeartbeats 4000000
namespace CB
open PySem PySem.Spec PyProof.Rows L2
open LsText (Bytes)
open LsChain (Book)
/-! ### the land -/
def LandIs (K : PySem.W.Frag) (H F : Hp) (la : Addr) (b : Book) : Prop := ∃ dx ba pa, H la = some (.ins (He.ga K "Land") dx [("book", .ref ba), ("places", .ref pa)]) ∧ F la = none ∧ IsBook K F ba b ∧ IsPls F pa (placing b.sets) ∧ Same F H
def spLandI (K : PySem.W.Frag) : Sp := sp1 fun p H Q _ => ∃ (lx dx : Addr) (F : Hp), p = .ref lx ∧ H lx = some (.ins (He.ga K "Land") dx []) ∧ Same F H ∧ F lx = none ∧ ∀ H2 F2, Gm (oneM lx) H F H2 F2 → LandIs K H2 F2 lx LsChain.empty → Q .non H2
def spHold (K : PySem.W.Frag) : Sp := sp2 fun p x H Q _ => ∃ (la ba : Addr) (b0 b : Book) (F : Hp), p = .ref la ∧ x = .ref ba ∧ LandIs K H F la b0 ∧ IsBook K F ba b ∧ ∀ H2 F2, Gm (oneM la) H F H2 F2 → LandIs K H2 F2 la b → Q .non H2
def iV (l : List Int) : List V := l.map V.int
def spReadInto (K : PySem.W.Frag) : Sp := sp3 fun x y z H Q _ => ∃ (la ga ta : Addr) (b g : Book) (t : Bytes) (F : Hp), x = .ref la ∧ y = .ref ga ∧ z = .ref ta ∧ LandIs K H F la b ∧ IsBook K F ga g ∧ F ta = some (.lst (bV t)) ∧ t.length ≤ 1000000 ∧
  ∀ H2 F2 p, Gm (oneM la) H F H2 F2 → H p = none → (∀ a, ChainSpec.readOn g t = .error a → LandIs K H2 F2 la b → H2 p = some (.lst (iV (LsRows.told a))) → Q (.ref p) H2) ∧
    (∀ c, ChainSpec.readOn g t = .ok c → LandIs K H2 F2 la c → H2 p = some (.lst (iV [0])) → Q (.ref p) H2)
section
variable {K : PySem.W.Frag} {H F H2 F2 : Hp} {la : Addr} {b : Book}
theorem LandIs.gm {M : Addr → Prop} (h : LandIs K H F la b) (g : Gm M H F H2 F2) (n : ¬ M la) : LandIs K H2 F2 la b := by
  obtain ⟨dx, ba, pa, h1, h2, h3, h4, h5⟩ := h
  exact ⟨dx, ba, pa, g.keep _ _ n h1, (g.new _ _ h1).trans h2, h3.mono g.fr, h4.mono g.fr, g.sub⟩
theorem LandIs.gr (h : LandIs K H F la b) (g : Gr H F H2 F2) : LandIs K H2 F2 la b := h.gm (M := fun _ => False) (Gm.of g) (fun z => z)
theorem LandIs.same (h : LandIs K H F la b) (s : Same H H2) : LandIs K H2 F la b := by
  obtain ⟨dx, ba, pa, h1, h2, h3, h4, h5⟩ := h
  exact ⟨dx, ba, pa, s _ _ h1, h2, h3, h4, h5.trans s⟩
theorem LandIs.there (h : LandIs K H F la b) : ∀ a, oneM la a → ∃ u, H a = some u := fun a e => by
  obtain ⟨dx, ba, pa, h1, _⟩ := h
  rw [show a = la from e]
  exact ⟨_, h1⟩
theorem LandIs.sub (h : LandIs K H F la b) : Same F H := by
  obtain ⟨dx, ba, pa, h1, h2, h3, h4, h5⟩ := h
  exact h5
end
def tsFault (K : PySem.W.Frag) : Addr → Value → Option Addr → TS := fun a cls d => tRet (tLst (tCons (tC (.int (-6))) (tCons (tByF (He.ga K "Fault") "kind" a cls d (tVar 4)) (tCons (tByF (He.ga K "Fault") "at" a cls d (tVar 4)) tNil))))
section
variable {X : Cx} {k n : Nat} {nm : Str} {ps : List Str} {sp : Sp} {e : Expr} {es : List Expr} {t : TA} {p pos : Pos} {W : WX}
theorem pe_cS (G : Ok X.prog X.w X.K X.mg X.base (L2.CX X.prog X.w) k (nm, none) ps sp) (hr : Room n X.A) (tk : Takes X W) (ha : PA X (e :: es) t) (hk : k ≤ n := by decide) (hg : Gl X nm := by rfl) (hdb : (nm == ("__debug__" : Str)) = false := by decide)
    (he : starEach (e :: es) X.env = (false, eval e X.env) :: starEach es X.env := by rfl) (hpl : (backTo pos (starEach es X.env)).any (·.1) = false := by rfl) : PE X (.Call (.Name nm p) (e :: es) [] pos) (tCallS sp (WE W) t) := by
  obtain ⟨fd, F, b⟩ := G.ex
  exact pe_callS F (hr.mono hk) hg G.g G.kp b (fun σ => passAt tk σ) ha hdb he hpl
end
section
variable {P : Program} {w : World} {K : PySem.W.Frag} {mg : Str → Option Value} {base : Heap}
theorem ok_Land___init__ (T : Txt K mg) : Ok P w K mg base CX0 4 ("Land", some "__init__") ["self"] (spLandI K) := by
  refine mk_ok T 108 rfl sc_Land___init__ T.g_Land (fun _ _ _ _ _ _ us hl => match us, hl with | [_], _ => rfl) len1 (fun cdv A outer s H vs Q E hr h => ?_)
  refine ⟨_, (pss_cons (ps_fld (pv 0) (pe_c0 (ok_empty_book T) hr) rfl)
      (pss_one (ps_fld (pv 0) pe_dnewT rfl))), ?_⟩
  obtain ⟨x0, rfl, h⟩ := h
  obtain ⟨lx, dx, F, rfl, hlx, hF, flx, h⟩ := h
  refine ⟨rfl, F, hF, ?_⟩
  rintro _ H2 F2 g ⟨ba, rfl, hb⟩
  have h2 := g.keep _ _ hlx
  have f2 : F2 lx = none := (g.new _ _ hlx).trans flx
  refine ⟨_, rfl, lx, _, dx, _, rfl, h2, T.c_Land, T.a_Land_book, few few0, ?_⟩
  intro pa hpa
  have m : ∀ {H : Hp} {o : HO}, H lx = some o → ∀ b, oneM lx b → ∃ u, H b = some u := fun h b e => by
    rw [show b = lx from e]
    exact ⟨_, h⟩
  have g2 := (Gm.of (M := oneM lx) g).set (o := .ins (He.ga K "Land") dx [("book", .ref ba)]) (p := lx) rfl f2
  have gp : Gr (upd H2 lx (.ins (He.ga K "Land") dx [("book", .ref ba)])) F2 _ (upd F2 pa (.dT [])) := (Gr.refl g2.sub).put (o := .dT []) hpa
  have nl : lx ≠ pa := fun z => by rw [← z, upd_same] at hpa; cases hpa
  have h3 : upd (upd H2 lx (.ins (He.ga K "Land") dx [("book", .ref ba)])) pa (.dT []) lx = some (.ins (He.ga K "Land") dx [("book", .ref ba)]) := by rw [upd_ne nl, upd_same]
  have f3 : upd F2 pa (.dT []) lx = none := by rw [upd_ne nl]; exact f2
  refine ⟨_, rfl, lx, _, dx, _, rfl, h3, T.c_Land, T.a_Land_places, (by show 1 < 1000; decide), ?_⟩
  have g4 := (g2.gr gp (m upd_same)).set (o := .ins (He.ga K "Land") dx [("book", .ref ba), ("places", .ref pa)]) (p := lx) rfl f3
  refine h _ _ g4 ⟨dx, ba, pa, upd_same, f3, hb.mono gp.fr, ⟨[], upd_same, .nil⟩, g4.sub⟩
theorem ok_Land_hold (T : Txt K mg) : Ok P w K mg base CX0 6 ("Land", some "hold") ["self", "book"] (spHold K) := by
  refine mk_ok T 109 rfl sc_Land_hold T.g_Land (fun _ _ _ _ _ _ us hl => match us, hl with | [_, _], _ => rfl) len2 (fun cdv A outer s H vs Q E hr h => ?_)
  refine ⟨_, (pss_cons (ps_fld (pv 0) (pv 1) rfl)
      (pss_one (ps_fld (pv 0) (pe_c (ok_places_of T) hr (pa_cons (pv 1) pa_nil)) rfl))), ?_⟩
  obtain ⟨x0, x1, rfl, h⟩ := h
  obtain ⟨la, ba, b0, b, F, rfl, rfl, hl, hb, h⟩ := h
  obtain ⟨dx, ba0, pa0, h1, h2, h3, h4, hF⟩ := id hl
  refine ⟨_, rfl, _, rfl, la, _, dx, _, rfl, h1, T.c_Land, T.a_Land_book, (by show 2 < 1000; decide), ?_⟩
  have g1 := (Gm.refl (M := oneM la) hF).set (o := .ins (He.ga K "Land") dx [("book", .ref ba), ("places", .ref pa0)]) (p := la) rfl h2
  have m : ∀ {H : Hp} {o : HO}, H la = some o → ∀ b, oneM la b → ∃ u, H b = some u := fun h b e => by
    rw [show b = la from e]
    exact ⟨_, h⟩
  refine ⟨_, rfl, _, rfl, ba, b, F, rfl, hb, g1.sub, ?_⟩
  rintro _ H2 F2 g ⟨pa, rfl, hp⟩
  have k2 := g.keep _ _ (upd_same (H := H) (a := la) (o := .ins (He.ga K "Land") dx [("book", .ref ba), ("places", .ref pa0)]))
  have f2 : F2 la = none := (g.new _ _ upd_same).trans h2
  refine ⟨_, rfl, la, _, dx, _, rfl, k2, T.c_Land, T.a_Land_places, (by show 2 < 1000; decide), ?_⟩
  have g3 := (g1.gr g (m upd_same)).set (o := .ins (He.ga K "Land") dx [("book", .ref ba), ("places", .ref pa)]) (p := la) rfl f2
  exact h _ _ g3 ⟨dx, ba, pa, upd_same, f2, hb.mono g.fr, hp, g3.sub⟩
theorem ok_read_into (T : Txt K mg) : Ok P w K mg base CX0 13 ("read_into", none) ["land", "ground", "text"] (spReadInto K) := by
  refine mk_ok T 89 rfl sc_read_into T.g_read_into (fun _ _ _ _ _ _ us hl => match us, hl with | [_, _, _], _ => rfl) len3 (fun cdv A outer s H vs Q E hr h => ?_)
  refine ⟨_, (pss_cons (ps_if (pt_cmpR op_gt (pe_callB call_len (by rfl) T.n_len (by decide +kernel) (pa_cons (pv 2) pa_nil)) (pe_cst T.m_MOST_TEXT) (nomark _)) (pss_one (ps_ret (pe_lst (pa_cons (pe_cst T.m_TOO_LONG) pa_nil)))) pss_nil)
      (pss_cons (ps_try_as (i := 4) (tb := fun W => tAsg (tCallS (spReadBehind K) (WE W) (tCons (tVar 1) (tCons (tVar 2) tNil))) (gName 3)) (ts := tsFault K) (Wout := fun _ _ _ _ => False) rfl rfl sc_read_into.nd rfl rfl ⟨rfl, by decide, Or.inl T.g_Fault⟩ takes0
      (fun W pn xe tk _ => pss_one (ps_set (i := 3) sc_read_into.nd rfl (Or.inl rfl) (by exact (pe_cS (ok_read_behind T) hr tk (by exact (pa_cons (pv 1) (pa_cons (pv 2) pa_nil)))))))
      (fun a oe cls d pn hz hf => pss_one (ps_ret (by exact (pe_lst (by exact (pa_cons (pe_cst T.m_FAULTY) (pa_cons (pe_byF T T.a_Fault_kind hz hf (pv 4)) (pa_cons (pe_byF T T.a_Fault_at hz hf (pv 4)) pa_nil)))))))))
      (pss_cons (ps_expr (pe_m (pv 0) T.c_Land T.h_Land_hold (ok_Land_hold T) hr (pa_cons (pv 3) pa_nil)))
      (pss_one (ps_ret (pe_lst (pa_cons pe_int pa_nil))))))), ?_⟩
  obtain ⟨x0, x1, x2, rfl, h⟩ := h
  obtain ⟨la, ga, ta, b, g, t, F, rfl, rfl, rfl, hl, hg, fta, ht, h⟩ := h
  have hF := hl.sub
  refine ⟨_, rfl, _, _, rfl, .inl ⟨_, .of (hF _ _ fta), (bV_len t).symm⟩, _, _, rfl, rfl, _, rfl, ?_⟩
  have one : ∀ {H' : Hp}, Same H H' → Gm (oneM la) H F H' F := fun s => gm_same hF s
  by_cases c : 16384 < t.length
  · rw [decide_eq_true (show (t.length : Int) > 16384 by omega)]
    have r : ChainSpec.readOn g t = .error (LsAns.says (-2)) := if_pos c
    refine iteT ⟨(by show 1 ≤ sizeLine; decide), fun p hp => ?_⟩
    exact (h _ F p (one (same_upd hp)) hp).1 _ r (hl.same (same_upd hp)) upd_same
  · rw [decide_eq_false (show ¬ (t.length : Int) > 16384 by omega)]
    have rn : ChainSpec.readOn g t = match LsChain.read g t with
        | .error e => .error (LsAns.tells (-6) [(e.1 : Int), (e.2 : Int)])
        | .ok c => .ok c := if_neg c
    refine iteF ⟨_, rfl, _, rfl, _, _, rfl, ga, ta, g, t, F, rfl, rfl, hg, fta, by omega, hF, fun e he d H1 k1 hd => ?_, fun c' hc => ?_⟩
    · rw [he] at rn
      have s1 : Same H H1 := fun b u e => k1 b u (fun z => z) e
      refine ⟨true, T.fault.te, fun _ a na => ?_, fun z => Bool.noConfusion z⟩
      refine ⟨_, rfl, rfl, rfl, d, _, _, rfl, hd, rfl, _, rfl, rfl, rfl, d, _, _, rfl, hd, rfl, (by show 3 ≤ sizeLine; decide), fun p hp => ?_⟩
      have s2 := same_upd2 (o := .lst [.int (-6), .int (e.1 : Int), .int (e.2 : Int)]) s1 hp
      exact (h _ F p (one s2) (s1.free hp)).1 _ rn (hl.same s2) upd_same
    · rw [hc] at rn
      rintro _ H1 F1 g1 ⟨ba, rfl, hb⟩
      have hl1 := hl.gr g1
      obtain ⟨dx, _, _, h1, _⟩ := id hl1
      refine ⟨_, rfl, la, dx, _, rfl, h1, rfl, _, rfl, _, _, rfl, la, ba, b, c', F1, rfl, rfl, hl1, hb, fun H2 F2 g2 hl2 => ?_⟩
      refine ⟨(by show 1 ≤ sizeLine; decide), fun p hp => ?_⟩
      have gg := (Gm.of (M := oneM la) g1).trans g2 hl1.there
      have hpH : H p = none := by
        cases z : H p with
        | none => rfl
        | some u =>
          obtain ⟨v, e⟩ := gg.there hl2.there z
          rw [e] at hp
          cases hp
      exact (h _ F2 p (gg.trans (gm_same hl2.sub (same_upd hp)) hl2.there) hpH).2 _ rn (hl2.same (same_upd hp)) upd_same
end
end CB
end
section
set_option Elab.async false
set_option linter.all false
set_option maxRecDepth 100000
set_option maxHeartbeats 4000000
namespace CB
open LsText LsChain
theorem where_is {b : Book} (h : WfB b) (n : Bytes) : b.where_ n = placeIn (placing b.sets) n := (placing_is b h.nd n).symm
theorem marks_is (b : Book) : b.marks = (entriesL b).map fun p => ((p.1.1, p.1.2.1, p.1.2.2.1), p.2) := by
  unfold Book.marks entriesL ents
  induction b.lines with
  | nil => rfl
  | cons l ls ih =>
    rw [List.flatMap_cons, List.flatMap_cons, List.map_append, ih, List.map_map]
    rfl
theorem filterMap_filter {α β : Type} {f : α → Option β} {q : α → Bool} {g : α → β} (h1 : ∀ a, q a = true → f a = some (g a)) (h2 : ∀ a, q a = false → f a = none) : ∀ l : List α, l.filterMap f = (l.filter q).map g
  | [] => rfl
  | a :: l => by
    have ih := filterMap_filter h1 h2 l
    cases c : q a with
    | true => rw [List.filterMap_cons_some (h1 a c), List.filter_cons_of_pos c, List.map_cons, ih]
    | false => rw [List.filterMap_cons_none (h2 a c), List.filter_cons_of_neg (by rw [c]; decide), ih]
def atOf (S : Places) (p : LineT × Entry) : Option Point := match placeIn S p.1.1, placeIn S p.1.2.1 with
  | some x, some y => some (along x y p.1.2.2.1 (p.2.at_ : Int) (mkBes p.2.mark))
  | _, _ => none
theorem markAt_is {b : Book} (h : WfB b) (p : LineT × Entry) : b.markAt ((p.1.1, p.1.2.1, p.1.2.2.1), p.2) (mkBes p.2.mark) = atOf (placing b.sets) p := by
  unfold Book.markAt atOf
  rw [where_is h, where_is h]
  rfl
theorem ties_is {b : Book} (h : WfB b) : b.ties = (metL b 1).map (tieOf (placing b.sets)) := by
  unfold Book.ties
  rw [marks_is, List.filterMap_map]
  refine filterMap_filter (q := fun p : LineT × Entry => mkKind p.2.mark == 1) (g := tieOf (placing b.sets)) (fun p c => ?_) (fun p c => ?_) (entriesL b)
  · show (match p.2.mark with
      | .tie n o => some (match b.where_ n, b.markAt ((p.1.1, p.1.2.1, p.1.2.2.1), p.2) o with
        | some p, some q => some (p.1 - q.1, p.2 - q.2)
        | _, _ => none)
      | _ => none) = _
    cases hm : p.2.mark with
    | station n => rw [hm] at c; cases c
    | feature f o => rw [hm] at c; cases c
    | tie n o =>
      have mb : mkBes p.2.mark = o := by rw [hm]; rfl
      have mn : mkName p.2.mark = n := by rw [hm]; rfl
      have ma := markAt_is h p
      rw [mb] at ma
      simp only [ma, where_is h]
      unfold tieOf atOf
      rw [mn, mb]
      cases placeIn (placing b.sets) n <;> cases placeIn (placing b.sets) p.1.1 <;> cases placeIn (placing b.sets) p.1.2.1 <;> rfl
  · show (match p.2.mark with
      | .tie n o => some (match b.where_ n, b.markAt ((p.1.1, p.1.2.1, p.1.2.2.1), p.2) o with
        | some p, some q => some (p.1 - q.1, p.2 - q.2)
        | _, _ => none)
      | _ => none) = _
    cases hm : p.2.mark with
    | station n => rfl
    | feature f o => rfl
    | tie n o => rw [hm] at c; cases c
def featL (b : Book) (f : Nat) : List (LineT × Entry) := (metL b 2).filter fun p => mkNum p.2.mark == f
theorem feature_is {b : Book} (h : WfB b) (f : Nat) : b.feature f = (featL b f).map (atOf (placing b.sets)) := by
  have e : featL b f = (entriesL b).filter fun p => mkKind p.2.mark == 2 && mkNum p.2.mark == f := by
    unfold featL metL
    rw [List.filter_filter]
    congr 1
    funext p
    exact Bool.and_comm _ _
  rw [e]
  unfold Book.feature
  rw [marks_is, List.filterMap_map]
  refine filterMap_filter (q := fun p : LineT × Entry => mkKind p.2.mark == 2 && mkNum p.2.mark == f) (g := atOf (placing b.sets)) (fun p c => ?_) (fun p c => ?_) (entriesL b)
  · show (match p.2.mark with
      | .feature g o => if g = f then some (b.markAt ((p.1.1, p.1.2.1, p.1.2.2.1), p.2) o) else none
      | _ => none) = _
    cases hm : p.2.mark with
    | station n => rw [hm] at c; cases c
    | tie f o => rw [hm] at c; cases c
    | feature g o =>
      have mb : mkBes p.2.mark = o := by rw [hm]; rfl
      have ma := markAt_is h p
      rw [mb] at ma
      rw [hm] at c
      have c : g = f := by simpa [mkKind, mkNum] using c
      simp only [ma]
      rw [if_pos c]
  · show (match p.2.mark with
      | .feature g o => if g = f then some (b.markAt ((p.1.1, p.1.2.1, p.1.2.2.1), p.2) o) else none
      | _ => none) = _
    cases hm : p.2.mark with
    | station n => rfl
    | tie f o => rfl
    | feature g o =>
      rw [hm] at c
      have c : ¬ g = f := by simpa [mkKind, mkNum] using c
      simp only []
      rw [if_neg c]
theorem stretch_is {b : Book} (h : WfB b) (l : LineT) : b.stretch l = stretchOf b.unit (placing b.sets) l := by
  unfold Book.stretch stretchOf
  rw [where_is h, where_is h]
  rfl
def knoL (b : Book) : List Told := b.told.filter isKnownT
theorem map_filter_fst {α : Type} (q : Bytes → Bool) (f : α → Bytes) : ∀ l : List α, (l.filter fun a => q (f a)).map f = (l.map f).filter q
  | [] => rfl
  | a :: l => by
    have ih := map_filter_fst q f l
    rw [List.filter_cons, List.map_cons, List.filter_cons]
    cases c : q (f a) with
    | true => rw [if_pos rfl, if_pos rfl, List.map_cons, ih]
    | false => rw [if_neg Bool.false_ne_true, if_neg Bool.false_ne_true, ih]
theorem ground_is (b : Book) (n : Bytes) : b.ground n = ((knoL b).filter fun t => (b.rests n).contains (knoOf t).1).map fun t => (knoOf t).1 := by
  unfold Book.ground
  have e : (b.sets.filter fun s => isKnown s && (b.rests n).contains s.1) = (knownsOf b.sets).filter fun s => (b.rests n).contains s.1 := by
    unfold knownsOf
    rw [List.filter_filter]
    congr 1
    funext s
    exact Bool.and_comm _ _
  rw [e, knowns_told]
  show List.map _ (List.filter _ ((knoL b).map setOfK)) = _
  rw [map_filter_fst (fun x => (b.rests n).contains x) (fun s : Bytes × Set_ => s.1), map_filter_fst (fun x => (b.rests n).contains x) (fun t => (knoOf t).1), List.map_map]
  rfl
theorem hangs_is (b : Book) (n : Bytes) : b.hangs n = ((nmsB b).filter fun o => o != n).filter fun o => (b.rests o).contains n := by
  unfold Book.hangs nmsB
  rw [List.filter_filter]
  have := map_filter_fst (fun x => x != n && (b.rests x).contains n) (fun s : Bytes × Set_ => s.1) b.sets
  rw [this]
  congr 1
  funext s
  exact Bool.and_comm _ _
theorem lacking_is {b : Book} (h : WfB b) : b.lacking = b.names.filter fun n => !(placeIn (placing b.sets) n).isSome := by
  unfold Book.lacking
  congr 1
  funext n
  rw [where_is h]
  cases placeIn (placing b.sets) n <;> rfl
theorem known_count (b : Book) : (b.sets.filter isKnown).length = (knoL b).length := by
  have := congrArg List.length (knowns_told b)
  rw [List.length_map] at this
  exact this
theorem ties_count {b : Book} (h : WfB b) : b.ties.length = (metL b 1).length := by rw [ties_is h, List.length_map]
theorem move_any (b : Book) (n : Bytes) : (b.sets.any fun s => s.1 == n && isKnown s) = ((knoL b).map fun t => (knoOf t).1).contains n := by
  have e : ((knoL b).map fun t => (knoOf t).1) = (knownsOf b.sets).map (·.1) := by
    rw [knowns_told, List.map_map]
    rfl
  rw [e]
  unfold knownsOf
  induction b.sets with
  | nil => rfl
  | cons s S ih =>
    rw [List.any_cons, List.filter_cons, ih]
    cases c : isKnown s with
    | true =>
      rw [if_pos rfl, List.map_cons, List.contains_cons, Bool.and_true, beq_swap]
    | false =>
      rw [if_neg Bool.false_ne_true, Bool.and_false, Bool.false_or]
theorem rests_in {b : Book} {n x : Bytes} {ns : List Bytes} (h : ∀ y, y ∈ ns ↔ Reach b.sets n y) : ns.contains x = (b.rests n).contains x := by
  refine Bool.eq_iff_iff.mpr ?_
  rw [List.contains_iff_mem, List.contains_iff_mem, h x]
  exact (rests_iff (S := b.sets) n x).symm
end CB
end
section
set_option Elab.async false
set_option linter.all false
set_option maxRecDepth 100000
set_option maxHeartbeats 4000000
namespace CB
open PySem PySem.Spec PyProof.Rows L2
open LsText (Bytes)
open LsChain (Book)
theorem text_row {l : List Int} {t : Bytes} (h : LsRows.text? l = some t) : iV l = bV t ∧ l.length = t.length := by
  unfold LsRows.text? at h
  split at h
  · rename_i hb
    cases h
    refine ⟨?_, by rw [List.length_map]⟩
    unfold iV bV
    rw [List.map_map]
    refine List.map_congr_left fun n hn => ?_
    unfold NeutralIO.bytes at hb
    have := List.all_eq_true.mp hb n hn
    rw [Bool.and_eq_true, decide_eq_true_eq, decide_eq_true_eq] at this
    show V.int n = V.int (((UInt8.ofNat n.toNat).toNat : Nat) : Int)
    congr 1
    have e : (UInt8.ofNat n.toNat).toNat = n.toNat := by simp [UInt8.toNat_ofNat', Nat.mod_eq_of_lt (show n.toNat < 256 by omega)]
    rw [e]
    omega
  · cases h
theorem nat_of {n : Int} {k : Nat} (h : LsRows.nat? n = some k) : n = (k : Int) := by
  unfold LsRows.nat? at h
  split at h
  · cases h
    omega
  · cases h
abbrev callOf (k : Int) (nums : List Int) (rws : List (List Int)) : Option ChainSpec.Call := ChainNeutral.callOf ((k :: nums) :: rws)
theorem shT {k : Int} {nums : List Int} {rws : List (List Int)} {c : ChainSpec.Call} {f : Bytes → ChainSpec.Call} (hk : (k = 1 ∧ f = .book) ∨ (k = 2 ∧ f = .more) ∨ (k = 5 ∧ f = .where_) ∨ (k = 6 ∧ f = .ground) ∨ (k = 7 ∧ f = .hangs)) (h : callOf k nums rws = some c) :
    nums = [] ∧ ∃ n t, rws = [n] ∧ LsRows.text? n = some t ∧ c = f t := by
  rcases hk with ⟨rfl, rfl⟩ | ⟨rfl, rfl⟩ | ⟨rfl, rfl⟩ | ⟨rfl, rfl⟩ | ⟨rfl, rfl⟩ <;>
  · cases nums with
    | cons x xs => rcases rws with _ | ⟨r, _ | ⟨r2, rs⟩⟩ <;> rcases xs with _ | ⟨y, _ | ⟨z, zs⟩⟩ <;> simp [callOf, ChainNeutral.callOf] at h
    | nil =>
      rcases rws with _ | ⟨r, _ | ⟨r2, rs⟩⟩
      · simp [callOf, ChainNeutral.callOf] at h
      · cases ht : LsRows.text? r with
        | none => simp [callOf, ChainNeutral.callOf, ht] at h
        | some t =>
          simp [callOf, ChainNeutral.callOf, ht] at h
          exact ⟨rfl, r, t, rfl, ht, h.symm⟩
      · simp [callOf, ChainNeutral.callOf] at h
theorem sh0 {k : Int} {nums : List Int} {rws : List (List Int)} {c f : ChainSpec.Call} (hk : (k = 3 ∧ f = .print) ∨ (k = 4 ∧ f = .count) ∨ (k = 8 ∧ f = .lacking) ∨ (k = 12 ∧ f = .worstTie) ∨ (k = 14 ∧ f = .worstLine)) (h : callOf k nums rws = some c) :
    nums = [] ∧ rws = [] ∧ c = f := by
  rcases hk with ⟨rfl, rfl⟩ | ⟨rfl, rfl⟩ | ⟨rfl, rfl⟩ | ⟨rfl, rfl⟩ | ⟨rfl, rfl⟩ <;>
  · cases nums with
    | cons x xs => rcases rws with _ | ⟨r, _ | ⟨r2, rs⟩⟩ <;> rcases xs with _ | ⟨y, _ | ⟨z, zs⟩⟩ <;> simp [callOf, ChainNeutral.callOf] at h
    | nil =>
      rcases rws with _ | ⟨r, _ | ⟨r2, rs⟩⟩
      · simp [callOf, ChainNeutral.callOf] at h
        exact ⟨rfl, rfl, h.symm⟩
      · simp [callOf, ChainNeutral.callOf] at h
      · simp [callOf, ChainNeutral.callOf] at h
theorem sh1 {k : Int} {nums : List Int} {rws : List (List Int)} {c : ChainSpec.Call} {f : Nat → ChainSpec.Call} (hk : (k = 9 ∧ f = .feature) ∨ (k = 10 ∧ f = .rounded) ∨ (k = 11 ∧ f = .tie) ∨ (k = 13 ∧ f = .stretch) ∨ (k = 16 ∧ f = .strike)) (h : callOf k nums rws = some c) :
    ∃ n : Nat, nums = [(n : Int)] ∧ rws = [] ∧ c = f n := by
  rcases hk with ⟨rfl, rfl⟩ | ⟨rfl, rfl⟩ | ⟨rfl, rfl⟩ | ⟨rfl, rfl⟩ | ⟨rfl, rfl⟩ <;>
  · cases nums with
    | nil => rcases rws with _ | ⟨r, _ | ⟨r2, rs⟩⟩ <;> simp [callOf, ChainNeutral.callOf] at h
    | cons x xs =>
      rcases rws with _ | ⟨r, _ | ⟨r2, rs⟩⟩ <;> rcases xs with _ | ⟨y, _ | ⟨z, zs⟩⟩
      · cases hn : LsRows.nat? x with
        | none => simp [callOf, ChainNeutral.callOf, hn] at h
        | some n =>
          simp [callOf, ChainNeutral.callOf, hn] at h
          exact ⟨n, by rw [nat_of hn], rfl, h.symm⟩
      all_goals simp [callOf, ChainNeutral.callOf] at h
theorem sh2 {nums : List Int} {rws : List (List Int)} {c : ChainSpec.Call} (h : callOf 15 nums rws = some c) :
    ∃ (x y : Nat) (r : List Int) (t : Bytes), nums = [(x : Int), (y : Int)] ∧ rws = [r] ∧ LsRows.text? r = some t ∧ c = .move t x y := by
  rcases nums with _ | ⟨x, _ | ⟨y, _ | ⟨z, zs⟩⟩⟩ <;> rcases rws with _ | ⟨r, _ | ⟨r2, rs⟩⟩
  case cons.cons.nil.cons.nil =>
    cases ht : LsRows.text? r with
    | none => simp [callOf, ChainNeutral.callOf, ht] at h
    | some t =>
      cases hx : LsRows.nat? x with
      | none => simp [callOf, ChainNeutral.callOf, ht, hx] at h
      | some i =>
        cases hy : LsRows.nat? y with
        | none => simp [callOf, ChainNeutral.callOf, ht, hx, hy] at h
        | some j =>
          simp [callOf, ChainNeutral.callOf, ht, hx, hy] at h
          exact ⟨i, j, r, t, by rw [nat_of hx, nat_of hy], rfl, ht, h.symm⟩
  all_goals simp [callOf, ChainNeutral.callOf] at h
/-! ### what a deed promises -/
def RetD (K : PySem.W.Frag) (H F : Hp) (la : Addr) (b' : Book) (a : LsAns.Ans) (Q : VK) : Prop := ∀ H2 F2 p, Gm (oneM la) H F H2 F2 → H p = none → LandIs K H2 F2 la b' → H2 p = some (.lst (iV (LsRows.told a))) → Q (.ref p) H2
def spDeed (K : PySem.W.Frag) (k : Int) : Sp := sp3 fun x y z H Q _ => ∃ (la na ra : Addr) (b : Book) (nums : List Int) (rws : List (List Int)) (ras : List Addr) (c : ChainSpec.Call) (F : Hp), x = .ref la ∧ y = .ref na ∧ z = .ref ra ∧ LandIs K H F la b ∧ F na = some (.lst (iV nums)) ∧ F ra = some (.lst (rV ras)) ∧ All2 (fun a r => F a = some (.lst (iV r))) ras rws ∧
  (∀ r ∈ rws, r.length ≤ 1000000) ∧ callOf k nums rws = some c ∧ RetD K H F la (ChainSpec.step b c).1 (ChainSpec.step b c).2 Q
section
variable {K : PySem.W.Frag} {H F H1 F1 : Hp} {la : Addr} {b b' : Book} {a : LsAns.Ans} {Q : VK}
theorem free_land {b0 : Book} (g : Gm (oneM la) H F H1 F1) (hl : LandIs K H1 F1 la b0) {p : Addr} (n : H1 p = none) : H p = none := by
  cases c : H p with
  | none => rfl
  | some o =>
    by_cases q : p = la
    · obtain ⟨u, hu⟩ := hl.there la rfl
      rw [q, hu] at n
      cases n
    · have := g.keep p o q c
      rw [this] at n
      cases n
theorem RetD.gr (k : RetD K H F la b' a Q) (hl : LandIs K H F la b) (g : Gr H F H1 F1) : RetD K H1 F1 la b' a Q := fun H2 F2 p g2 n l2 e => k H2 F2 p ((Gm.of g).trans g2 (hl.gr g).there) (g.keep.free n) l2 e
theorem RetD.same (k : RetD K H F la b' a Q) (hl : LandIs K H F la b) (s : Same H H1) : RetD K H1 F la b' a Q := fun H2 F2 p g2 n l2 e => k H2 F2 p ((gm_same hl.sub s).trans g2 (hl.same s).there) (s.free n) l2 e
theorem RetD.ret (k : RetD K H F la b a Q) (hl : LandIs K H F la b) : RetL (iV (LsRows.told a)) H Q := fun p H2 n s e => k H2 F p (gm_same hl.sub s) n (hl.same s) e
theorem one_row {ras : List Addr} {r : List Int} (h : All2 (fun a r => F a = some (.lst (iV r))) ras [r]) : ∃ x, ras = [x] ∧ F x = some (.lst (iV r)) := by
  cases h with
  | cons h t =>
    cases t
    exact ⟨_, rfl, h⟩
theorem LandIs.wf (h : LandIs K H F la b) : WfB b := by
  obtain ⟨dx, ba, pa, h1, h2, h3, h4, h5⟩ := h
  exact h3.1
theorem iV_app (l r : List Int) : iV l ++ iV r = iV (l ++ r) := (List.map_append ..).symm
theorem iV_bytes (t : Bytes) : iV (t.map fun c => ((c.toNat : Nat) : Int)) = bV t := by
  unfold iV bV
  rw [List.map_map]
  rfl
theorem iV_frac (q : Rat) : iV (ChainSpec.frac q) = fracV q := rfl
end
end CB
end
section
set_option Elab.async false
set_option linter.all false
set_option maxRecDepth 100000
set_option maxHeartbeats 4000000
namespace CB
open PySem PySem.Spec PyProof.Rows L2
open LsText (Bytes spaced)
open LsChain (Book placeIn)
def spNamesAns : Sp := sp1 fun x H Q _ => ∃ (ra : Addr) (as : List Addr) (ts : List Bytes), x = .ref ra ∧ H ra = some (.lst (rV as)) ∧ All2 (IsName H) as ts ∧ ts.length ≤ 1000 ∧ (∀ t ∈ ts, t.length ≤ 31) ∧ RetL (iV (LsRows.told (ChainSpec.names ts))) H Q
theorem atR0 {x : V} {r : List V} : atI (x :: r) 0 = some x := atI_nat (j := 0) rfl
theorem says_one {z : Int} : iV (LsRows.told (LsAns.says z)) = [V.int z] := rfl
section
variable {P : Program} {w : World} {K : PySem.W.Frag} {mg : Str → Option Value} {base : Heap}
theorem ok_names_answer (T : Txt K mg) : Ok P w K mg base CX0 4 ("names_answer", none) ["names"] spNamesAns := by
  refine mk_ok T 88 rfl sc_names_answer T.g_names_answer (fun _ _ _ _ _ _ us hl => match us, hl with | [_], _ => rfl) len1 (fun cdv A outer s H vs Q E hr h => ?_)
  refine ⟨_, (pss_one (ps_ret (pe_op op_cat (pe_lst (pa_cons (pe_callB call_len (by rfl) T.n_len (by decide +kernel) (pa_cons (pv 0) pa_nil)) pa_nil)) (pe_c (ok_names_bytes T) hr (pa_cons (pv 0) pa_nil))))), ?_⟩
  obtain ⟨x0, rfl, h⟩ := h
  obtain ⟨ra, as, ts, rfl, hra, hts, hn, h31, h⟩ := h
  have jl : (joinB [32] ts).length ≤ ts.length * (31 + 1) := joinB_len h31
  refine ⟨_, rfl, _, _, rfl, .inl ⟨_, .of hra, rfl⟩, (by show 1 ≤ sizeLine; decide), fun l hl => ?_⟩
  have s1 : Same H (upd H l (.lst [.int ((rV as).length : Int)])) := same_upd hl
  refine ⟨_, rfl, _, rfl, ra, as, ts, rfl, s1 _ _ hra, hts.imp fun _ _ h => .inr (s1 _ _ h), by omega, by omega, fun p H2 hp s2 e2 => ?_⟩
  refine ⟨l, p, [.int ((rV as).length : Int)], bV (joinB [32] ts), rfl, rfl, s2 _ _ upd_same, e2, ?_, fun r hr1 => ?_⟩
  · rw [bV_len]
    exact size_ok (by show 1 + _ ≤ _; omega)
  · have e : [V.int ((rV as).length : Int)] ++ bV (joinB [32] ts) = iV (LsRows.told (ChainSpec.names ts)) := by
      rw [rV_len, hts.len, joinB_spaced, ← iV_bytes]
      rfl
    rw [e]
    exact h.go (s1.trans s2) hr1
theorem ok_do_book (T : Txt K mg) : Ok P w K mg base CX0 14 ("do_book", none) ["land", "numbers", "rows"] (spDeed K 1) := by
  refine mk_ok T 90 rfl sc_do_book T.g_do_book (fun _ _ _ _ _ _ us hl => match us, hl with | [_, _, _], _ => rfl) len3 (fun cdv A outer s H vs Q E hr h => ?_)
  refine ⟨_, (pss_one (ps_ret (pe_c (ok_read_into T) hr (pa_cons (pv 0) (pa_cons (pe_c0 (ok_empty_book T) hr) (pa_cons (pe_ix ix_list (pv 2) pe_int (fun _ _ => rfl)) pa_nil)))))), ?_⟩
  obtain ⟨x0, x1, x2, rfl, h⟩ := h
  obtain ⟨la, na, ra, b, nums, rws, ras, c, F, rfl, rfl, rfl, hl, hna, hra, hrs, hsz, hc, h⟩ := h
  obtain ⟨rfl, r, t, rfl, ht, rfl⟩ := shT (f := .book) (.inl ⟨rfl, rfl⟩) hc
  obtain ⟨x, rfl, hx⟩ := one_row hrs
  obtain ⟨e1, e2⟩ := text_row ht
  have hF := hl.sub
  refine ⟨_, rfl, rfl, F, hF, ?_⟩
  rintro _ H1 F1 g1 ⟨ga, rfl, hg⟩
  have hl1 := hl.gr g1
  have h1 := h.gr hl g1
  have rl := hsz r (by simp)
  refine ⟨_, rfl, _, _, _, _, rfl, rfl, .of (g1.sub _ _ (g1.fr _ _ hra)), atR0, _, _, _, rfl, la, ga, x, b, LsChain.empty, t, F1, rfl, rfl, rfl, hl1, hg, ?_, by omega, fun H2 F2 p g2 hp => ⟨fun a ha l2 e => ?_, fun c' hc' l2 e => ?_⟩⟩
  · rw [← e1]
    exact g1.fr _ _ hx
  · have st : ChainSpec.step b (.book t) = (b, a) := by
      unfold ChainSpec.step
      simp only [ha]
    rw [st] at h1
    exact h1 H2 F2 p g2 hp l2 e
  · have st : ChainSpec.step b (.book t) = (c', LsAns.says 0) := by
      unfold ChainSpec.step
      simp only [hc']
    rw [st] at h1
    exact h1 H2 F2 p g2 hp l2 e
theorem ok_do_more (T : Txt K mg) : Ok P w K mg base CX0 14 ("do_more", none) ["land", "numbers", "rows"] (spDeed K 2) := by
  refine mk_ok T 91 rfl sc_do_more T.g_do_more (fun _ _ _ _ _ _ us hl => match us, hl with | [_, _, _], _ => rfl) len3 (fun cdv A outer s H vs Q E hr h => ?_)
  refine ⟨_, (pss_one (ps_ret (pe_c (ok_read_into T) hr (pa_cons (pv 0) (pa_cons (pe_fld (pv 0) rfl) (pa_cons (pe_ix ix_list (pv 2) pe_int (fun _ _ => rfl)) pa_nil)))))), ?_⟩
  obtain ⟨x0, x1, x2, rfl, h⟩ := h
  obtain ⟨la, na, ra, b, nums, rws, ras, c, F, rfl, rfl, rfl, hl, hna, hra, hrs, hsz, hc, h⟩ := h
  obtain ⟨rfl, r, t, rfl, ht, rfl⟩ := shT (f := .more) (.inr (.inl ⟨rfl, rfl⟩)) hc
  obtain ⟨x, rfl, hx⟩ := one_row hrs
  obtain ⟨e1, e2⟩ := text_row ht
  have hF := hl.sub
  obtain ⟨dx, ba, pa, l1, l2, l3, l4, _⟩ := id hl
  have rl := hsz r (by simp)
  refine ⟨_, rfl, _, rfl, la, _, dx, _, _, rfl, l1, T.c_Land, T.a_Land_book, rfl, _, rfl, _, _, _, _, rfl, rfl, .of (hF _ _ hra), atR0, _, _, _, rfl, la, ba, x, b, b, t, F, rfl, rfl, rfl, hl, l3, ?_, by omega, fun H2 F2 p g2 hp => ⟨fun a ha l2 e => ?_, fun c' hc' l2 e => ?_⟩⟩
  · rw [← e1]
    exact hx
  · have st : ChainSpec.step b (.more t) = (b, a) := by
      unfold ChainSpec.step
      simp only [ha]
    rw [st] at h
    exact h H2 F2 p g2 hp l2 e
  · have st : ChainSpec.step b (.more t) = (c', LsAns.says 0) := by
      unfold ChainSpec.step
      simp only [hc']
    rw [st] at h
    exact h H2 F2 p g2 hp l2 e
theorem ok_do_print (T : Txt K mg) : Ok P w K mg base CX0 6 ("do_print", none) ["land", "numbers", "rows"] (spDeed K 3) := by
  refine mk_ok T 92 rfl sc_do_print T.g_do_print (fun _ _ _ _ _ _ us hl => match us, hl with | [_, _, _], _ => rfl) len3 (fun cdv A outer s H vs Q E hr h => ?_)
  refine ⟨_, (pss_cons (ps_set (i := 3) sc_do_print.nd rfl (Or.inl rfl) (pe_c (ok_book_bytes T) hr (pa_cons (pe_fld (pv 0) rfl) pa_nil)))
      (pss_one (ps_ret (pe_op op_cat (pe_lst (pa_cons (pe_callB call_len (by rfl) T.n_len (by decide +kernel) (pa_cons (pv 3) pa_nil)) pa_nil)) (pv 3))))), ?_⟩
  obtain ⟨x0, x1, x2, rfl, h⟩ := h
  obtain ⟨la, na, ra, b, nums, rws, ras, c, F, rfl, rfl, rfl, hl, hna, hra, hrs, hsz, hc, h⟩ := h
  obtain ⟨rfl, rfl, rfl⟩ := sh0 (f := .print) (.inl ⟨rfl, rfl⟩) hc
  have hF := hl.sub
  have wf := hl.wf
  obtain ⟨dx, ba, pa, l1, l2, l3, l4, _⟩ := id hl
  have k : RetD K H F la b (LsAns.gives b.text) Q := h
  refine ⟨_, rfl, la, _, dx, _, _, rfl, l1, T.c_Land, T.a_Land_book, rfl, _, rfl, ba, b, rfl, l3.mono hF, fun p H1 hp s1 e1 => ?_⟩
  refine ⟨_, rfl, _, _, rfl, .inl ⟨_, .of e1, rfl⟩, (by show 1 ≤ sizeLine; decide), fun l hl1 => ?_⟩
  have s2 : Same H1 (upd H1 l (.lst [.int ((bV b.text).length : Int)])) := same_upd hl1
  have tl : b.text.length ≤ 4000000 := by
    rw [text_is, List.length_append]
    have := told_len4 wf
    have := unit_len wf
    omega
  refine ⟨_, rfl, l, p, [.int ((bV b.text).length : Int)], bV b.text, rfl, rfl, upd_same, s2 _ _ e1, ?_, fun r hr1 => ?_⟩
  · rw [bV_len]
    exact size_ok (by show 1 + _ ≤ _; omega)
  · have e : [V.int ((bV b.text).length : Int)] ++ bV b.text = iV (LsRows.told (LsAns.gives b.text)) := by
      rw [bV_len, ← iV_bytes]
      rfl
    rw [e]
    exact (k.ret hl).go (s1.trans s2) hr1
theorem ok_do_count (T : Txt K mg) : Ok P w K mg base CX0 4 ("do_count", none) ["land", "numbers", "rows"] (spDeed K 4) := by
  refine mk_ok T 93 rfl sc_do_count T.g_do_count (fun _ _ _ _ _ _ us hl => match us, hl with | [_, _, _], _ => rfl) len3 (fun cdv A outer s H vs Q E hr h => ?_)
  refine ⟨_, (pss_cons (ps_set (i := 3) sc_do_count.nd rfl (Or.inl rfl) (pe_fld (pv 0) rfl))
      (pss_cons (ps_set (i := 4) sc_do_count.nd rfl (Or.inl rfl) (pe_lst (pa_cons (pe_callB call_len (by rfl) T.n_len (by decide +kernel) (pa_cons (pe_c (ok_names_set T) hr (pa_cons (pv 3) pa_nil)) pa_nil)) (pa_cons (pe_callB call_len (by rfl) T.n_len (by decide +kernel) (pa_cons (pe_c (ok_knowns_of T) hr (pa_cons (pv 3) pa_nil)) pa_nil)) pa_nil))))
      (pss_one (ps_ret (pe_op op_cat (pe_op op_cat (pe_lst (pa_cons pe_int pa_nil)) (pv 4)) (pe_lst (pa_cons (pe_callB call_len (by rfl) T.n_len (by decide +kernel) (pa_cons (pe_c (ok_lines_of T) hr (pa_cons (pv 3) pa_nil)) pa_nil)) (pa_cons (pe_callB call_len (by rfl) T.n_len (by decide +kernel) (pa_cons (pe_c (ok_entries_of T) hr (pa_cons (pv 3) pa_nil)) pa_nil)) (pa_cons (pe_callB call_len (by rfl) T.n_len (by decide +kernel) (pa_cons (pe_c (ok_met_of T) hr (pa_cons (pv 3) (pa_cons (pe_cst T.m_TIE) pa_nil))) pa_nil)) pa_nil))))))))), ?_⟩
  obtain ⟨x0, x1, x2, rfl, h⟩ := h
  obtain ⟨la, na, ra, b, nums, rws, ras, c, F, rfl, rfl, rfl, hl, hna, hra, hrs, hsz, hc, h⟩ := h
  obtain ⟨rfl, rfl, rfl⟩ := sh0 (f := .count) (.inr (.inl ⟨rfl, rfl⟩)) hc
  have hF := hl.sub
  have wf := hl.wf
  obtain ⟨dx, ba, pa, l1, l2, l3, l4, _⟩ := id hl
  have k : RetD K H F la b (LsAns.tells 0 (LsAns.ints [b.sets.length, (b.sets.filter LsChain.isKnown).length, b.lines.length, b.entries, b.ties.length])) Q := h
  refine ⟨_, rfl, la, _, dx, _, _, rfl, l1, T.c_Land, T.a_Land_book, rfl, ?_⟩
  refine ⟨_, rfl, _, rfl, ba, b, F, rfl, l3, hF, fun p1 H1 a1 hp1 s1 e1 n1 => ⟨_, _, rfl, .inl ⟨_, .of e1, rfl⟩, ?_⟩⟩
  refine ⟨_, rfl, _, rfl, ba, b, F, rfl, l3, hF.trans s1, fun p2 H2 a2 hp2 s2 e2 n2 => ⟨_, _, rfl, .inl ⟨_, .of e2, rfl⟩, (by show 2 ≤ sizeLine; decide), fun p3 hp3 => ?_⟩⟩
  have s3 : Same H (upd H2 p3 (.lst [.int ((rV a1).length : Int), .int ((rV a2).length : Int)])) := same_upd2 (s1.trans s2) hp3
  refine ⟨(by show 1 ≤ sizeLine; decide), fun p4 hp4 => ⟨_, rfl, p4, p3, _, [.int ((rV a1).length : Int), .int ((rV a2).length : Int)], rfl, rfl, upd_same, (same_upd hp4) _ _ upd_same, (by show 3 ≤ sizeLine; decide), fun p5 hp5 => ?_⟩⟩
  have s5 := same_upd2 (o := .lst [.int 0, .int ((rV a1).length : Int), .int ((rV a2).length : Int)]) (same_upd2 (o := .lst [.int 0]) s3 hp4) hp5
  refine ⟨_, rfl, _, rfl, ba, b, F, rfl, l3, hF.trans s5, fun p6 H6 a6 hp6 s6 e6 n6 => ⟨_, _, rfl, .inl ⟨_, .of e6, rfl⟩, ?_⟩⟩
  refine ⟨_, rfl, _, rfl, ba, b, F, rfl, l3, (hF.trans s5).trans s6, ?_⟩
  rintro _ H7 F7 g7 ⟨pe, pes, rfl, hpe, hpes⟩
  refine ⟨_, _, rfl, .inl ⟨_, .of (g7.sub _ _ hpe), rfl⟩, ?_⟩
  refine ⟨_, rfl, _, _, rfl, ba, b, 1, F7, rfl, rfl, l3.mono g7.fr, g7.sub, ?_⟩
  rintro _ H8 F8 g8 ⟨pm, pms, rfl, hpm, hpms⟩
  refine ⟨_, _, rfl, .inl ⟨_, .of (g8.sub _ _ hpm), rfl⟩, (by show 3 ≤ sizeLine; decide), fun p9 hp9 => ?_⟩
  have e5' := (same_upd (o := .lst [.int ((rV a6).length : Int), .int ((rV pes).length : Int), .int ((rV pms).length : Int)]) hp9) _ _ (g8.keep _ _ (g7.keep _ _ (s6 _ _ (upd_same (H := upd (upd H2 p3 (.lst [.int ((rV a1).length : Int), .int ((rV a2).length : Int)])) p4 (.lst [.int 0])) (a := p5) (o := .lst [.int 0, .int ((rV a1).length : Int), .int ((rV a2).length : Int)])))))
  refine ⟨p5, p9, [.int 0, .int ((rV a1).length : Int), .int ((rV a2).length : Int)], [.int ((rV a6).length : Int), .int ((rV pes).length : Int), .int ((rV pms).length : Int)], rfl, rfl, e5', upd_same, (by show 6 ≤ sizeLine; decide), fun pz hpz => ?_⟩
  have c1 : (rV a1).length = b.sets.length := by rw [rV_len, n1.len, List.length_map]
  have c2 : (rV a2).length = (b.sets.filter LsChain.isKnown).length := by rw [rV_len, n2.len, known_count]; rfl
  have c3 : (rV a6).length = b.lines.length := by rw [rV_len, n6.len]
  have c4 : (rV pes).length = b.entries := by rw [rV_len, hpes.len, entries_len]
  have c5 : (rV pms).length = b.ties.length := by rw [rV_len, hpms.len, ties_count wf]
  have e : [V.int 0, .int ((rV a1).length : Int), .int ((rV a2).length : Int)] ++ [V.int ((rV a6).length : Int), .int ((rV pes).length : Int), .int ((rV pms).length : Int)] = iV (LsRows.told (LsAns.tells 0 (LsAns.ints [b.sets.length, (b.sets.filter LsChain.isKnown).length, b.lines.length, b.entries, b.ties.length]))) := by
    rw [c1, c2, c3, c4, c5]
    rfl
  rw [e]
  exact (k.ret hl).go (same_upd2 (((s5.trans s6).trans g7.keep).trans g8.keep) hp9) hpz
end
end CB
end
section
set_option Elab.async false
set_option linter.all false
set_option maxRecDepth 100000
set_option maxHeartbeats 4000000
namespace CB
open PySem PySem.Spec PyProof.Rows L2
open LsText (Bytes spaced)
open LsChain (Book placeIn)
/-- a name asked for: too long, or a tuple of it -/
theorem step_where {b : Book} (wf : WfB b) (t : Bytes) : ChainSpec.step b (.where_ t) = (b, if 31 < t.length then LsAns.says (-2) else if (nmsB b).contains t = false then LsAns.says (-4) else match placeIn (placing b.sets) t with
    | none => LsAns.says (-5)
    | some p => LsAns.tells 0 (ChainSpec.frac p.1 ++ ChainSpec.frac p.2)) := by
  show (b, ChainSpec.ofStation b t (match b.where_ t with
    | none => LsAns.says (-5)
    | some p => LsAns.tells 0 (ChainSpec.frac p.1 ++ ChainSpec.frac p.2))) = _
  unfold ChainSpec.ofStation
  rw [where_is wf, isSet_is]
  rfl
theorem step_ground (b : Book) (t : Bytes) : ChainSpec.step b (.ground t) = (b, if 31 < t.length then LsAns.says (-2) else if (nmsB b).contains t = false then LsAns.says (-4) else ChainSpec.names (b.ground t)) := by
  show (b, ChainSpec.ofStation b t _) = _
  unfold ChainSpec.ofStation
  rw [isSet_is]
  rfl
theorem step_hangs (b : Book) (t : Bytes) : ChainSpec.step b (.hangs t) = (b, if 31 < t.length then LsAns.says (-2) else if b.names.contains t = false then LsAns.says (-4) else ChainSpec.names (b.hangs t)) := rfl
section
variable {P : Program} {w : World} {K : PySem.W.Frag} {mg : Str → Option Value} {base : Heap}
theorem contains_no {l : List Bytes} {t : Bytes} : (!(l.contains t)) = true ↔ l.contains t = false := by cases l.contains t <;> simp
theorem ok_do_where (T : Txt K mg) : Ok P w K mg base CX0 4 ("do_where", none) ["land", "numbers", "rows"] (spDeed K 5) := by
  refine mk_ok T 94 rfl sc_do_where T.g_do_where (fun _ _ _ _ _ _ us hl => match us, hl with | [_, _, _], _ => rfl) len3 (fun cdv A outer s H vs Q E hr h => ?_)
  refine ⟨_, (pss_cons (ps_if (pt_cmpR op_gt (pe_callB call_len (by rfl) T.n_len (by decide +kernel) (pa_cons (pe_ix ix_list (pv 2) pe_int (fun _ _ => rfl)) pa_nil)) (pe_cst T.m_MOST_NAME) (nomark _)) (pss_one (ps_ret (pe_lst (pa_cons (pe_cst T.m_TOO_LONG) pa_nil)))) pss_nil)
      (pss_cons (ps_set (i := 3) sc_do_where.nd rfl (Or.inl rfl) (pe_callTy call_tuple_of (by rfl) T.n_tuple (by decide +kernel) (pa_cons (pe_ix ix_list (pv 2) pe_int (fun _ _ => rfl)) pa_nil)))
      (pss_cons (ps_if (pt_cmpR (op_notInD (hu65 hr)) (pv 3) (pe_c (ok_names_set T) hr (pa_cons (pe_fld (pv 0) rfl) pa_nil)) (by rfl)) (pss_one (ps_ret (pe_lst (pa_cons (pe_cst T.m_NO_SUCH) pa_nil)))) pss_nil)
      (pss_cons (ps_if (pt_cmp (pc_dnotin (hu_of hr) (pv 3) (pe_fld (pv 0) rfl)) rfl) (pss_one (ps_ret (pe_lst (pa_cons (pe_cst T.m_NOT_NOW) pa_nil)))) pss_nil)
      (pss_one (ps_ret (pe_op op_cat (pe_lst (pa_cons pe_int pa_nil)) (pe_c (ok_shares_of T) hr (pa_cons (pe_dget (hu_of hr) (pe_fld (pv 0) rfl) (pv 3) (fun _ _ => rfl)) pa_nil))))))))), ?_⟩
  obtain ⟨x0, x1, x2, rfl, h⟩ := h
  obtain ⟨la, na, ra, b, nums, rws, ras, c, F, rfl, rfl, rfl, hl, hna, hra, hrs, hsz, hc, h⟩ := h
  obtain ⟨rfl, r, t, rfl, ht, rfl⟩ := shT (f := .where_) (.inr (.inr (.inl ⟨rfl, rfl⟩))) hc
  obtain ⟨x, rfl, hx⟩ := one_row hrs
  obtain ⟨e1, e2⟩ := text_row ht
  rw [e1] at hx
  have hF := hl.sub
  have wf := hl.wf
  obtain ⟨dx, ba, pa, l1, l2, l3, l4, _⟩ := id hl
  rw [step_where wf] at h
  refine ⟨_, rfl, _, _, _, _, rfl, rfl, .of (hF _ _ hra), atR0, _, _, rfl, .inl ⟨_, .of (hF _ _ hx), (bV_len t).symm⟩, _, _, rfl, rfl, _, rfl, ?_⟩
  by_cases c31 : 31 < t.length
  · rw [decide_eq_true (show (t.length : Int) > 31 by omega)]
    rw [if_pos c31] at h
    exact iteT ⟨(by show 1 ≤ sizeLine; decide), fun p hp => (h.ret hl).go (Same.refl _) hp⟩
  rw [decide_eq_false (show ¬ (t.length : Int) > 31 by omega)]
  rw [if_neg c31] at h
  refine iteF ⟨_, rfl, _, _, _, _, rfl, rfl, .of (hF _ _ hra), atR0, x, _, rfl, .inl ⟨.of (hF _ _ hx), fun ta hta => ?_⟩⟩
  have s1 : Same H (upd H ta (.tup (bV t))) := same_upd hta
  have hl1 := hl.same s1
  have h1 := h.same hl s1
  have hta1 : IsName (upd H ta (.tup (bV t))) ta t := upd_same
  refine ⟨_, rfl, _, rfl, la, _, dx, _, _, rfl, s1 _ _ l1, T.c_Land, T.a_Land_book, rfl, _, rfl, ba, b, F, rfl, l3, hF.trans s1, fun p2 H2 as hp2 s2 e3 hn => ?_⟩
  refine ⟨nmD t, (b.sets.map (·.1)).map nmD, IsName.dp (hta1.mono s2), dp_names (.of e3) (hn.imp fun _ _ => IsName.mono ((hF.trans s1).trans s2)), nmD_shaped t, nms_shaped _, ?_⟩
  rw [nms_any]
  refine ⟨_, rfl, ?_⟩
  have hl2 := hl1.same s2
  have h2 := h1.same hl1 s2
  cases ct : (nmsB b).contains t with
  | false =>
    rw [ct, if_pos rfl] at h2
    rw [show (b.sets.map (·.1)).contains t = false from ct]
    exact iteT ⟨(by show 1 ≤ sizeLine; decide), fun p hp => (h2.ret hl2).go (Same.refl _) hp⟩
  | true =>
    rw [ct, if_neg (by decide)] at h2
    rw [show (b.sets.map (·.1)).contains t = true from ct]
    obtain ⟨L, lp1, lp2⟩ := l4
    have s12 := (hF.trans s1).trans s2
    have hLH := lp2.imp (plR.mono s12)
    have ta2 := hta1.mono s2
    have l12 := (s1.trans s2) _ _ l1
    refine iteF ⟨_, rfl, _, rfl, la, _, dx, _, _, rfl, l12, T.c_Land, T.a_Land_places, rfl, pa, _, rfl, dget_name (s12 _ _ lp1) ta2, _, rfl, ?_⟩
    rw [pl_some hLH]
    cases pt : placeIn (placing b.sets) t with
    | none =>
      rw [pt] at h2
      exact iteT ⟨(by show 1 ≤ sizeLine; decide), fun p hp => (h2.ret hl2).go (Same.refl _) hp⟩
    | some pp =>
      rw [pt] at h2
      simp only at h2
      obtain ⟨qa, v1, i1⟩ := pl_at hLH pt
      refine iteF ⟨(by show 1 ≤ sizeLine; decide), fun l hl3 => ?_⟩
      have s3 : Same H2 (upd H2 l (.lst [.int 0])) := same_upd hl3
      have dg := dget_name (s3 _ _ (s12 _ _ lp1)) (ta2.mono s3)
      rw [v1] at dg
      refine ⟨_, rfl, la, _, dx, _, _, rfl, s3 _ _ l12, T.c_Land, T.a_Land_places, rfl, _, rfl, pa, _, rfl, dg, _, rfl, qa, pp, rfl, ?_, fun p4 H4 hp4 s4 e4 => ?_⟩
      · obtain ⟨e, n, bb, a1, a2, a3, a4, a5, a6, a7⟩ := i1.mono s3
        exact ⟨e, n, bb, a1, a2, a3, a4, a5.le (by decide), a6.le (by decide), a7.le (by decide)⟩
      · refine ⟨l, p4, [.int 0], fracV pp.1 ++ fracV pp.2, rfl, rfl, s4 _ _ upd_same, e4, (by show 5 ≤ sizeLine; decide), fun p5 hp5 => ?_⟩
        exact (h2.ret hl2).go (s3.trans s4) hp5
end
end CB
end
section
set_option Elab.async false
set_option linter.all false
set_option maxRecDepth 100000
set_option maxHeartbeats 4000000
namespace CB
open PySem PySem.Spec PyProof.Rows L2
open LsText (Bytes spaced)
open LsChain (Book placeIn Told)
theorem told31 {b : Book} (wf : WfB b) : ∀ t ∈ b.told, ∀ n ∈ LsChain.namesIn t, n.length ≤ 31 := fun t ht n hn => by
  have w := wf.told t ht
  cases t with
  | known k x y =>
    rw [show n = k by simpa [LsChain.namesIn] using hn]
    exact w.1
  | line x y m es =>
    rw [names_line] at hn
    rcases List.mem_cons.mp hn with rfl | hn
    · exact w.1
    · rcases List.mem_cons.mp hn with rfl | hn
      · exact w.2.1
      · obtain ⟨e, he, rfl⟩ := List.mem_map.mp hn
        exact (w.2.2.2.2 e (List.mem_filter.mp he).1).name
theorem names31 {b : Book} (wf : WfB b) : ∀ n ∈ b.names, n.length ≤ 31 := fun n hn => by
  have : n ∈ b.told.flatMap LsChain.namesIn := by
    rcases mem_addAll.mp hn with q | q
    · exact absurd q (by simp)
    · exact q
  obtain ⟨t, ht, h⟩ := List.mem_flatMap.mp this
  exact told31 wf t ht n h
theorem nms31 {b : Book} (wf : WfB b) : ∀ n ∈ nmsB b, n.length ≤ 31 := fun n hn => by
  unfold nmsB at hn
  rw [sets_names] at hn
  obtain ⟨t, ht, h⟩ := List.mem_flatMap.mp hn
  have w := wf.told t ht
  cases t with
  | known k x y =>
    rw [show n = k by simpa [setNames] using h]
    exact w.1
  | line x y m es =>
    rw [line_names] at h
    obtain ⟨e, he, h2⟩ := List.mem_flatMap.mp h
    have we := w.2.2.2.2 e he
    unfold markNames at h2
    cases hm : e.mark with
    | station k =>
      rw [hm] at h2
      have hk := we.name
      rw [hm] at hk
      rw [show n = k by simpa using h2]
      exact hk
    | tie k o => rw [hm] at h2; simp at h2
    | feature f o => rw [hm] at h2; simp at h2
theorem names_len {b : Book} (wf : WfB b) : b.names.length ≤ 768 := by
  have h1 := addAll_len (b.told.flatMap LsChain.namesIn) []
  have h2 := names_total b
  have h3 := wf.told128
  have h4 := wf.e512
  show (LsChain.addAll [] (b.told.flatMap LsChain.namesIn)).length ≤ 768
  rw [List.length_nil] at h1
  omega
theorem kno31 {b : Book} (wf : WfB b) : ∀ t ∈ knoL b, (knoOf t).1.length ≤ 31 := fun t ht => by
  obtain ⟨h1, h2⟩ := List.mem_filter.mp ht
  have w := wf.told t h1
  rw [told_known h2] at w
  exact w.1
theorem kno_len {b : Book} (wf : WfB b) : (knoL b).length ≤ 128 := Nat.le_trans (List.length_filter_le _ _) wf.told128
theorem filter_snoc {α : Type} {q : α → Bool} {l : List α} {i : Nat} {x : α} (h : l[i]? = some x) : (l.take (i + 1)).filter q = (l.take i).filter q ++ if q x = true then [x] else [] := by
  rw [take_snoc h, List.filter_append]
  cases c : q x <;> simp [c]
def spCoord : Sp := sp1 fun x H Q _ => ∃ i : Int, x = .int i ∧ Q (.bl (decide (0 ≤ i) && decide (i ≤ 999999))) H
def spFeatNo : Sp := sp1 fun x H Q _ => ∃ i : Int, x = .int i ∧ Q (.bl (decide (1 ≤ i) && decide (i ≤ 9999))) H
section
variable {P : Program} {w : World} {K : PySem.W.Frag} {mg : Str → Option Value} {base : Heap}
theorem ok_is_coordinate (T : Txt K mg) : Ok P w K mg base CX0 1 ("is_coordinate", none) ["number"] spCoord := by
  refine mk_ok T 15 rfl sc_is_coordinate T.g_is_coordinate (fun _ _ _ _ _ _ us hl => match us, hl with | [_], _ => rfl) len1 (fun cdv A outer s H vs Q E hr h => ?_)
  refine ⟨_, (pss_one (ps_ret (pe_chain op_le op_le pe_int (pv 0) (pe_cst T.m_TOP_COORDINATE)))), ?_⟩
  obtain ⟨x0, rfl, h⟩ := h
  obtain ⟨i, rfl, h⟩ := h
  refine ⟨_, rfl, _, _, rfl, rfl, _, rfl, ?_⟩
  by_cases c : (0 : Int) ≤ i
  · rw [decide_eq_true c] at h ⊢
    rw [Bool.true_and] at h
    exact iteT ⟨_, _, rfl, rfl, h⟩
  · rw [decide_eq_false c] at h ⊢
    rw [Bool.false_and] at h
    exact iteF h
theorem ok_is_feature_number (T : Txt K mg) : Ok P w K mg base CX0 1 ("is_feature_number", none) ["number"] spFeatNo := by
  refine mk_ok T 16 rfl sc_is_feature_number T.g_is_feature_number (fun _ _ _ _ _ _ us hl => match us, hl with | [_], _ => rfl) len1 (fun cdv A outer s H vs Q E hr h => ?_)
  refine ⟨_, (pss_one (ps_ret (pe_chain op_le op_le pe_int (pv 0) (pe_cst T.m_TOP_FEATURE)))), ?_⟩
  obtain ⟨x0, rfl, h⟩ := h
  obtain ⟨i, rfl, h⟩ := h
  refine ⟨_, rfl, _, _, rfl, rfl, _, rfl, ?_⟩
  by_cases c : (1 : Int) ≤ i
  · rw [decide_eq_true c] at h ⊢
    rw [Bool.true_and] at h
    exact iteT ⟨_, _, rfl, rfl, h⟩
  · rw [decide_eq_false c] at h ⊢
    rw [Bool.false_and] at h
    exact iteF h
/-- knowns picked by their names -/
theorem pick_ret {b : Book} (wf : WfB b) {t : Bytes} {q : Bytes → Bool} : (((knoL b).filter fun k => q (knoOf k).1).map fun k => (knoOf k).1).length ≤ 1000 ∧ ∀ n ∈ (((knoL b).filter fun k => q (knoOf k).1).map fun k => (knoOf k).1), n.length ≤ 31 := by
  constructor
  · rw [List.length_map]
    have h1 := List.length_filter_le (fun k => q (knoOf k).1) (knoL b)
    have h2 := kno_len wf
    omega
  · intro n hn
    obtain ⟨k, hk, rfl⟩ := List.mem_map.mp hn
    exact kno31 wf k (List.mem_filter.mp hk).1
theorem ok_do_ground (T : Txt K mg) : Ok P w K mg base CX0 5 ("do_ground", none) ["land", "numbers", "rows"] (spDeed K 6) := by
  refine mk_ok T 95 rfl sc_do_ground T.g_do_ground (fun _ _ _ _ _ _ us hl => match us, hl with | [_, _, _], _ => rfl) len3 (fun cdv A outer s H vs Q E hr h => ?_)
  refine ⟨_, (pss_cons (ps_if (pt_cmpR op_gt (pe_callB call_len (by rfl) T.n_len (by decide +kernel) (pa_cons (pe_ix ix_list (pv 2) pe_int (fun _ _ => rfl)) pa_nil)) (pe_cst T.m_MOST_NAME) (nomark _)) (pss_one (ps_ret (pe_lst (pa_cons (pe_cst T.m_TOO_LONG) pa_nil)))) pss_nil)
      (pss_cons (ps_set (i := 3) sc_do_ground.nd rfl (Or.inl rfl) (pe_callTy call_tuple_of (by rfl) T.n_tuple (by decide +kernel) (pa_cons (pe_ix ix_list (pv 2) pe_int (fun _ _ => rfl)) pa_nil)))
      (pss_cons (ps_if (pt_cmpR (op_notInD (hu65 hr)) (pv 3) (pe_c (ok_names_set T) hr (pa_cons (pe_fld (pv 0) rfl) pa_nil)) (by rfl)) (pss_one (ps_ret (pe_lst (pa_cons (pe_cst T.m_NO_SUCH) pa_nil)))) pss_nil)
      (pss_cons (ps_set (i := 4) sc_do_ground.nd rfl (Or.inr rfl) (pe_c (ok_grounds T) hr (pa_cons (pe_c (ok_lines_by_station T) hr (pa_cons (pe_fld (pv 0) rfl) pa_nil)) (pa_cons (pv 3) pa_nil))))
      (pss_one (ps_ret (pe_c (ok_names_answer T) hr (pa_cons (pe_lc (own := [("known", 5)]) (g := (gName 5)) (tt := (tB (tDIn (tFld K (tVar 5) "name") (tVar 4)))) (te := (tFld K (tVar 5) "name")) rfl sc_do_ground.nd (pi_list (pe_c (ok_knowns_of T) hr (pa_cons (pe_fld (pv 0) rfl) pa_nil))) (blkOk_by (own := [("known", 5)]) (N := N_do_ground) (sc := defScope s_do_ground) (by decide +kernel)) (fun _ _ _ _ _ => (pg_name (i := 5) sc_do_ground.nd rfl (Or.inl rfl))) (fun _ _ _ _ _ => (pts_one (pt_cmp (pc_din (hu_of hr) (pe_fld (pv 5) rfl) (pv 4)) rfl))) (fun _ _ _ _ _ => (pe_fld (pv 5) rfl))) pa_nil)))))))), ?_⟩
  obtain ⟨x0, x1, x2, rfl, h⟩ := h
  obtain ⟨la, na, ra, b, nums, rws, ras, c, F, rfl, rfl, rfl, hl, hna, hra, hrs, hsz, hc, h⟩ := h
  obtain ⟨rfl, r, t, rfl, ht, rfl⟩ := shT (f := .ground) (.inr (.inr (.inr (.inl ⟨rfl, rfl⟩)))) hc
  obtain ⟨x, rfl, hx⟩ := one_row hrs
  obtain ⟨e1, e2⟩ := text_row ht
  rw [e1] at hx
  have hF := hl.sub
  have wf := hl.wf
  obtain ⟨dx, ba, pa, l1, l2, l3, l4, _⟩ := id hl
  rw [step_ground] at h
  refine ⟨_, rfl, _, _, _, _, rfl, rfl, .of (hF _ _ hra), atR0, _, _, rfl, .inl ⟨_, .of (hF _ _ hx), (bV_len t).symm⟩, _, _, rfl, rfl, _, rfl, ?_⟩
  by_cases c31 : 31 < t.length
  · rw [decide_eq_true (show (t.length : Int) > 31 by omega)]
    rw [if_pos c31] at h
    exact iteT ⟨(by show 1 ≤ sizeLine; decide), fun p hp => (h.ret hl).go (Same.refl _) hp⟩
  rw [decide_eq_false (show ¬ (t.length : Int) > 31 by omega)]
  rw [if_neg c31] at h
  refine iteF ⟨_, rfl, _, _, _, _, rfl, rfl, .of (hF _ _ hra), atR0, x, _, rfl, .inl ⟨.of (hF _ _ hx), fun ta hta => ?_⟩⟩
  have s1 : Same H (upd H ta (.tup (bV t))) := same_upd hta
  have hl1 := hl.same s1
  have h1 := h.same hl s1
  have hta1 : IsName (upd H ta (.tup (bV t))) ta t := upd_same
  refine ⟨_, rfl, _, rfl, la, _, dx, _, _, rfl, s1 _ _ l1, T.c_Land, T.a_Land_book, rfl, _, rfl, ba, b, F, rfl, l3, hF.trans s1, fun p2 H2 as hp2 s2 e3 hn => ?_⟩
  refine ⟨nmD t, (b.sets.map (·.1)).map nmD, IsName.dp (hta1.mono s2), dp_names (.of e3) (hn.imp fun _ _ => IsName.mono ((hF.trans s1).trans s2)), nmD_shaped t, nms_shaped _, ?_⟩
  rw [nms_any]
  refine ⟨_, rfl, ?_⟩
  have hl2 := hl1.same s2
  have h2 := h1.same hl1 s2
  cases ct : (nmsB b).contains t with
  | false =>
    rw [ct, if_pos rfl] at h2
    rw [show (b.sets.map (·.1)).contains t = false from ct]
    exact iteT ⟨(by show 1 ≤ sizeLine; decide), fun p hp => (h2.ret hl2).go (Same.refl _) hp⟩
  | true =>
    rw [ct, if_neg (by decide)] at h2
    rw [show (b.sets.map (·.1)).contains t = true from ct]
    have ta2 := hta1.mono s2
    have l12 := (s1.trans s2) _ _ l1
    refine iteF ⟨_, rfl, la, _, dx, _, _, rfl, l12, T.c_Land, T.a_Land_book, rfl, _, rfl, ba, b, F, rfl, l3, hl2.sub, ?_⟩
    rintro _ H3 F3 g3 ⟨ld, rfl, hLn⟩
    have hl3 := hl2.gr g3
    have h3 := h2.gr hl2 g3
    refine ⟨_, rfl, _, _, rfl, ld, ta, b, t, rfl, rfl, wf, hLn.mono g3.sub, ta2.mono g3.keep, fun gd H4 ns hgd s4 e4 nlen hR => ?_⟩
    have hl4 := hl3.same s4
    have h4 := h3.same hl3 s4
    have l14 := s4 _ _ (g3.keep _ _ l12)
    refine ⟨_, rfl, la, _, dx, _, _, rfl, l14, T.c_Land, T.a_Land_book, rfl, _, rfl, ba, b, F3, rfl, l3.mono g3.fr, hl4.sub, fun kl H5 ks hkl s5 e5 hks => ?_⟩
    have hl5 := hl4.same s5
    have h5 := h4.same hl4 s5
    refine ⟨kl, rfl, ⟨_, .of e5⟩, fun D hD => ?_⟩
    refine lc_list (K := K) (a := kl) (xs := rV ks) (fun i H' => ∃ as, H' = upd H5 D (.lst (rV as)) ∧ All2 (IsName F3) as ((((knoL b).take i).filter fun k => ns.contains (knoOf k).1).map fun k => (knoOf k).1)) ⟨[], rfl, .nil⟩ ?_ ?_ ?_
    · rintro i H' _ ⟨as, rfl, _⟩
      exact .of ((same_upd hD) _ _ e5)
    · rintro i y H' hy ⟨as', rfl, hA⟩
      obtain ⟨q, hq, rfl⟩ := rV_get hy
      obtain ⟨k, hk, hT⟩ := hks.get hq
      have hk : (knoL b)[i]? = some k := hk
      have tk := (List.mem_filter.mp (List.mem_of_getElem? hk)).2
      rw [told_known tk] at hT
      obtain ⟨kx, nk, k1, k2⟩ := hT
      have s6 : Same H5 (upd H5 D (.lst (rV as'))) := same_upd hD
      have F5 : Same F3 (upd H5 D (.lst (rV as'))) := hl5.sub.trans s6
      have gd6 := s6 _ _ (s5 _ _ e4)
      refine ⟨rfl, _, rfl, q, _, kx, _, _, rfl, F5 _ _ k1, T.c_Known, T.a_Known_name, rfl, _, rfl, gd, _, rfl, dget_name gd6 (k2.mono F5), _, rfl, ?_⟩
      rw [nmK_val]
      have fs := filter_snoc (q := fun k => ns.contains (knoOf k).1) hk
      cases cn : ns.contains (knoOf k).1 with
      | true =>
        simp only [cn, if_true] at fs
        refine iteT ⟨_, rfl, q, _, kx, _, _, rfl, F5 _ _ k1, T.c_Known, T.a_Known_name, rfl, _, upd_same, ?_, as' ++ [nk], ?_, ?_⟩
        · rw [rV_len, hA.len, List.length_map]
          have z1 := List.length_filter_le (fun k => ns.contains (knoOf k).1) ((knoL b).take i)
          rw [List.length_take] at z1
          have z2 := kno_len wf
          exact small_line (by omega)
        · rw [upd_upd, rV_snoc]
        · rw [fs, List.map_append]
          exact hA.snoc k2
      | false =>
        simp only [cn] at fs
        refine iteF ⟨as', rfl, ?_⟩
        rw [fs]
        simp only [Bool.false_eq_true, if_false, List.append_nil]
        exact hA
    · rintro H' ⟨as', rfl, hA⟩
      have le : (rV ks).length = (knoL b).length := by rw [rV_len, hks.len]; rfl
      rw [le, List.take_length] at hA
      have s6 : Same H5 (upd H5 D (.lst (rV as'))) := same_upd hD
      obtain ⟨z1, z2⟩ := pick_ret (t := t) (q := fun n => ns.contains n) wf
      refine ⟨_, rfl, D, as', _, rfl, upd_same, hA.imp fun _ _ => IsName.mono (hl5.sub.trans s6), z1, z2, ?_⟩
      have eg : (((knoL b).filter fun k => ns.contains (knoOf k).1).map fun k => (knoOf k).1) = b.ground t := by
        rw [ground_is]
        congr 2
        funext k
        exact rests_in hR
      rw [eg]
      exact (h5.ret hl5).mono s6
end
end CB
end
section
set_option Elab.async false
set_option linter.all false
set_option maxRecDepth 100000
set_option maxHeartbeats 4000000
namespace CB
open PySem PySem.Spec PyProof.Rows L2
open LsText (Bytes spaced)
open LsChain (Book placeIn Told)
section
variable {P : Program} {w : World} {K : PySem.W.Frag} {mg : Str → Option Value} {base : Heap}
theorem ok_do_hangs (T : Txt K mg) : Ok P w K mg base CX0 5 ("do_hangs", none) ["land", "numbers", "rows"] (spDeed K 7) := by
  refine mk_ok T 96 rfl sc_do_hangs T.g_do_hangs (fun _ _ _ _ _ _ us hl => match us, hl with | [_, _, _], _ => rfl) len3 (fun cdv A outer s H vs Q E hr h => ?_)
  refine ⟨_, (pss_cons (ps_if (pt_cmpR op_gt (pe_callB call_len (by rfl) T.n_len (by decide +kernel) (pa_cons (pe_ix ix_list (pv 2) pe_int (fun _ _ => rfl)) pa_nil)) (pe_cst T.m_MOST_NAME) (nomark _)) (pss_one (ps_ret (pe_lst (pa_cons (pe_cst T.m_TOO_LONG) pa_nil)))) pss_nil)
      (pss_cons (ps_set (i := 3) sc_do_hangs.nd rfl (Or.inr rfl) (pe_callTy call_tuple_of (by rfl) T.n_tuple (by decide +kernel) (pa_cons (pe_ix ix_list (pv 2) pe_int (fun _ _ => rfl)) pa_nil)))
      (pss_cons (ps_if (pt_cmpR (op_notInD (hu65 hr)) (pv 3) (pe_c (ok_names_told T) hr (pa_cons (pe_fld (pv 0) rfl) pa_nil)) (by rfl)) (pss_one (ps_ret (pe_lst (pa_cons (pe_cst T.m_NO_SUCH) pa_nil)))) pss_nil)
      (pss_cons (ps_set (i := 4) sc_do_hangs.nd rfl (Or.inr rfl) (pe_c (ok_lines_by_station T) hr (pa_cons (pe_fld (pv 0) rfl) pa_nil)))
      (pss_cons (ps_setLc (i := 5) (own := [("other", 6)]) (g := (gName 6)) (tt := (tTest (tOp (rNeD K) (tVar 6) (tVar 3)))) (te := (tVar 6)) rfl sc_do_hangs.nd rfl rfl (sw_true rfl rfl rfl (by decide +kernel)) (pi_list (pe_c (ok_names_set T) hr (pa_cons (pe_fld (pv 0) rfl) pa_nil))) (blkOk_by (own := [("other", 6)]) (N := N_do_hangs) (sc := defScope s_do_hangs) (by decide +kernel)) (fun _ _ _ _ _ => (pg_name (i := 6) sc_do_hangs.nd rfl (Or.inl rfl))) (fun _ _ _ _ _ => (pts_one (pt_cmpR (op_neD hr.units) (pv 6) (pv 3) (nomark _)))) (fun _ _ _ _ _ => (pv 6)))
      (pss_one (ps_ret (pe_c (ok_names_answer T) hr (pa_cons (pe_lc (own := [("other", 6)]) (g := (gName 6)) (tt := (tB (tDIn (tVar 3) (tCall (spGrounds K) [] E0 (tCons (tVar 4) (tCons (tVar 6) tNil)))))) (te := (tVar 6)) rfl sc_do_hangs.nd (pi_list (pv 5)) (blkOk_by (own := [("other", 6)]) (N := N_do_hangs) (sc := defScope s_do_hangs) (by decide +kernel)) (fun _ _ _ _ _ => (pg_name (i := 6) sc_do_hangs.nd rfl (Or.inl rfl))) (fun _ _ _ _ _ => (pts_one (pt_cmp (pc_din (hu_of hr) (pv 3) (pe_c (ok_grounds T) hr (pa_cons (pv 4) (pa_cons (pv 6) pa_nil)))) rfl))) (fun _ _ _ _ _ => (pv 6))) pa_nil))))))))), ?_⟩
  obtain ⟨x0, x1, x2, rfl, h⟩ := h
  obtain ⟨la, na, ra, b, nums, rws, ras, c, F, rfl, rfl, rfl, hl, hna, hra, hrs, hsz, hc, h⟩ := h
  obtain ⟨rfl, r, t, rfl, ht, rfl⟩ := shT (f := .hangs) (.inr (.inr (.inr (.inr ⟨rfl, rfl⟩)))) hc
  obtain ⟨x, rfl, hx⟩ := one_row hrs
  obtain ⟨e1, e2⟩ := text_row ht
  rw [e1] at hx
  have hF := hl.sub
  have wf := hl.wf
  obtain ⟨dx, ba, pa, l1, l2, l3, l4, _⟩ := id hl
  rw [step_hangs] at h
  refine ⟨_, rfl, _, _, _, _, rfl, rfl, .of (hF _ _ hra), atR0, _, _, rfl, .inl ⟨_, .of (hF _ _ hx), (bV_len t).symm⟩, _, _, rfl, rfl, _, rfl, ?_⟩
  by_cases c31 : 31 < t.length
  · rw [decide_eq_true (show (t.length : Int) > 31 by omega)]
    rw [if_pos c31] at h
    exact iteT ⟨(by show 1 ≤ sizeLine; decide), fun p hp => (h.ret hl).go (Same.refl _) hp⟩
  rw [decide_eq_false (show ¬ (t.length : Int) > 31 by omega)]
  rw [if_neg c31] at h
  refine iteF ⟨_, rfl, _, _, _, _, rfl, rfl, .of (hF _ _ hra), atR0, x, _, rfl, .inl ⟨.of (hF _ _ hx), fun ta hta => ?_⟩⟩
  have s1 : Same H (upd H ta (.tup (bV t))) := same_upd hta
  have hl1 := hl.same s1
  have h1 := h.same hl s1
  have hta1 : IsName (upd H ta (.tup (bV t))) ta t := upd_same
  refine ⟨_, rfl, _, rfl, la, _, dx, _, _, rfl, s1 _ _ l1, T.c_Land, T.a_Land_book, rfl, _, rfl, ba, b, rfl, l3.mono (hF.trans s1), fun p2 H2 as hp2 s2 e3 hn => ?_⟩
  refine ⟨nmD t, b.names.map nmD, IsName.dp (hta1.mono s2), dp_names (.of e3) hn, nmD_shaped t, nms_shaped _, ?_⟩
  rw [nms_any]
  refine ⟨_, rfl, ?_⟩
  have hl2 := hl1.same s2
  have h2 := h1.same hl1 s2
  cases ct : b.names.contains t with
  | false =>
    rw [ct, if_pos rfl] at h2
    exact iteT ⟨(by show 1 ≤ sizeLine; decide), fun p hp => (h2.ret hl2).go (Same.refl _) hp⟩
  | true =>
    rw [ct, if_neg (by decide)] at h2
    have ta2 := hta1.mono s2
    have l12 := (s1.trans s2) _ _ l1
    refine iteF ⟨_, rfl, la, _, dx, _, _, rfl, l12, T.c_Land, T.a_Land_book, rfl, _, rfl, ba, b, F, rfl, l3, hl2.sub, ?_⟩
    rintro _ H3 F3 g3 ⟨ld, rfl, hLn⟩
    have hl3 := hl2.gr g3
    have h3 := h2.gr hl2 g3
    have l13 := g3.keep _ _ l12
    refine ⟨_, rfl, la, _, dx, _, _, rfl, l13, T.c_Land, T.a_Land_book, rfl, _, rfl, ba, b, F3, rfl, l3.mono g3.fr, g3.sub, fun nl H4 ns hnl s4 e4 hns => ?_⟩
    have hl4 := hl3.same s4
    have h4 := h3.same hl3 s4
    have ta4 : IsName H4 ta t := (ta2.mono g3.keep).mono s4
    refine ⟨nl, rfl, ⟨_, .of e4⟩, fun D hD => ?_⟩
    have hns : All2 (IsName F3) ns (nmsB b) := hns
    refine lc_list (K := K) (a := nl) (xs := rV ns) (fun i H' => ∃ as, H' = upd H4 D (.lst (rV as)) ∧ All2 (IsName F3) as (((nmsB b).take i).filter fun o => o != t)) ⟨[], rfl, .nil⟩ ?_ ?_ ?_
    · rintro i H' _ ⟨as, rfl, _⟩
      exact .of ((same_upd hD) _ _ e4)
    · rintro i y H' hy ⟨as', rfl, hA⟩
      obtain ⟨q, hq, rfl⟩ := rV_get hy
      obtain ⟨o, ho, hO⟩ := hns.get hq
      have s6 : Same H4 (upd H4 D (.lst (rV as'))) := same_upd hD
      have F5 : Same F3 (upd H4 D (.lst (rV as'))) := hl4.sub.trans s6
      refine ⟨rfl, _, rfl, _, rfl, nmD o, nmD t, (hO.mono F5).dp, (ta4.mono s6).dp, nmD_shaped o, nmD_shaped t, _, rfl, ?_⟩
      rw [nmD_eqv]
      have fs := filter_snoc (q := fun o => o != t) ho
      by_cases cn : o = t
      · rw [decide_eq_true cn]
        refine iteF ⟨as', rfl, ?_⟩
        rw [fs, cn]
        simp only [bne_self_eq_false, Bool.false_eq_true, if_false, List.append_nil]
        exact hA
      · rw [decide_eq_false cn]
        refine iteT ⟨_, rfl, _, upd_same, ?_, as' ++ [q], ?_, ?_⟩
        · rw [rV_len, hA.len]
          have z2 := nms_len b
          have z3 := wf.s64
          exact small_line (Nat.le_trans (List.length_filter_le _ _) (by rw [List.length_take]; omega))
        · rw [upd_upd, rV_snoc]
        · rw [fs, if_pos (by rw [bne_iff_ne]; exact cn)]
          exact hA.snoc hO
    · rintro H' ⟨os, rfl, hA⟩
      have le : (rV ns).length = (nmsB b).length := by rw [rV_len, hns.len]
      rw [le, List.take_length] at hA
      have s5 : Same H4 (upd H4 D (.lst (rV os))) := same_upd hD
      have hl5 := hl4.same s5
      have h5 := h4.same hl4 s5
      generalize hOT : ((nmsB b).filter fun o => o != t) = OT at hA
      have eD : upd H4 D (.lst (rV os)) D = some (.lst (rV os)) := upd_same
      generalize upd H4 D (.lst (rV os)) = H5 at s5 hl5 h5 eD ⊢
      have otl : OT.length ≤ 64 := by
        rw [← hOT]
        have z1 := List.length_filter_le (fun o => o != t) (nmsB b)
        have z2 := nms_len b
        have z3 := wf.s64
        omega
      refine ⟨_, rfl, D, rfl, ⟨_, .of eD⟩, fun D2 hD2 => ?_⟩
      have hLn5 : IsLns K F3 ld b := hLn
      refine lc_list (K := K) (a := D) (xs := rV os) (fun i H' => ∃ as, Same H5 H' ∧ H' D2 = some (.lst (rV as)) ∧ All2 (IsName F3) as ((OT.take i).filter fun o => (b.rests o).contains t)) ⟨[], same_upd hD2, upd_same, .nil⟩ ?_ ?_ ?_
      · rintro i H' _ ⟨as, s6, _, _⟩
        exact .of (s6 _ _ eD)
      · rintro i y H' hy ⟨as', s6, w6, hA6⟩
        obtain ⟨q, hq, rfl⟩ := rV_get hy
        obtain ⟨o, ho, hO⟩ := hA.get hq
        have F6 : Same F3 H' := hl5.sub.trans s6
        refine ⟨rfl, _, rfl, _, rfl, _, rfl, _, _, rfl, ld, q, b, o, rfl, rfl, wf, hLn5.mono F6, hO.mono F6, fun gd H7 gs hgd s7 e7 glen hR => ?_⟩
        have w7 := s7 _ _ w6
        refine ⟨gd, _, rfl, dget_name e7 (((ta4.mono s5).mono s6).mono s7), _, rfl, ?_⟩
        rw [nmK_val]
        have fs := filter_snoc (q := fun o => (b.rests o).contains t) ho
        have rr : gs.contains t = (b.rests o).contains t := rests_in hR
        rw [rr]
        cases cn : (b.rests o).contains t with
        | true =>
          simp only [cn, if_true] at fs
          refine iteT ⟨_, rfl, _, w7, ?_, as' ++ [q], same_mut (s6.trans s7) hD2, ?_, ?_⟩
          · rw [rV_len, hA6.len]
            have z1 := List.length_filter_le (fun o => (b.rests o).contains t) (OT.take i)
            rw [List.length_take] at z1
            exact small_line (by omega)
          · rw [upd_same, rV_snoc]
          · rw [fs]
            exact hA6.snoc hO
        | false =>
          simp only [cn, Bool.false_eq_true, if_false, List.append_nil] at fs
          refine iteF ⟨as', s6.trans s7, w7, ?_⟩
          rw [fs]
          exact hA6
      · rintro H' ⟨as', s6, w6, hA6⟩
        have le : (rV os).length = OT.length := by rw [rV_len, hA.len]
        rw [le, List.take_length] at hA6
        have eg : (OT.filter fun o => (b.rests o).contains t) = b.hangs t := by rw [hangs_is, hOT]
        rw [eg] at hA6
        refine ⟨_, rfl, D2, as', _, rfl, w6, hA6.imp fun _ _ => IsName.mono (hl5.sub.trans s6), ?_, ?_, ?_⟩
        · rw [← eg]
          have z1 := List.length_filter_le (fun o => (b.rests o).contains t) OT
          omega
        · intro n hn
          rw [← eg, ← hOT] at hn
          exact nms31 wf n (List.mem_filter.mp (List.mem_filter.mp hn).1).1
        · exact (h5.ret hl5).mono s6
theorem ok_do_lacking (T : Txt K mg) : Ok P w K mg base CX0 5 ("do_lacking", none) ["land", "numbers", "rows"] (spDeed K 8) := by
  refine mk_ok T 97 rfl sc_do_lacking T.g_do_lacking (fun _ _ _ _ _ _ us hl => match us, hl with | [_, _, _], _ => rfl) len3 (fun cdv A outer s H vs Q E hr h => ?_)
  refine ⟨_, (pss_one (ps_ret (pe_c (ok_names_answer T) hr (pa_cons (pe_lc (own := [("name", 3)]) (g := (gName 3)) (tt := (tB (tDNotIn (tVar 3) (tFld K (tVar 0) "places")))) (te := (tVar 3)) rfl sc_do_lacking.nd (pi_list (pe_c (ok_names_told T) hr (pa_cons (pe_fld (pv 0) rfl) pa_nil))) (blkOk_by (own := [("name", 3)]) (N := N_do_lacking) (sc := defScope s_do_lacking) (by decide +kernel)) (fun _ _ _ _ _ => (pg_name (i := 3) sc_do_lacking.nd rfl (Or.inl rfl))) (fun _ _ _ _ _ => (pts_one (pt_cmp (pc_dnotin (hu_of hr) (pv 3) (pe_fld (pv 0) rfl)) rfl))) (fun _ _ _ _ _ => (pv 3))) pa_nil)))), ?_⟩
  obtain ⟨x0, x1, x2, rfl, h⟩ := h
  obtain ⟨la, na, ra, b, nums, rws, ras, c, F, rfl, rfl, rfl, hl, hna, hra, hrs, hsz, hc, h⟩ := h
  obtain ⟨rfl, rfl, rfl⟩ := sh0 (f := .lacking) (.inr (.inr (.inl ⟨rfl, rfl⟩))) hc
  have hF := hl.sub
  have wf := hl.wf
  obtain ⟨dx, ba, pa, l1, l2, l3, ⟨L, lp1, lp2⟩, _⟩ := id hl
  have k : RetD K H F la b (ChainSpec.names b.lacking) Q := h
  refine ⟨_, rfl, la, _, dx, _, _, rfl, l1, T.c_Land, T.a_Land_book, rfl, _, rfl, ba, b, rfl, l3.mono hF, fun nl H1 ns hnl s1 e1 hns => ?_⟩
  have hl1 := hl.same s1
  have k1 := k.same hl s1
  refine ⟨nl, rfl, ⟨_, .of e1⟩, fun D hD => ?_⟩
  refine lc_list (K := K) (a := nl) (xs := rV ns) (fun i H' => ∃ as, H' = upd H1 D (.lst (rV as)) ∧ All2 (IsName H1) as ((b.names.take i).filter fun n => !(placeIn (placing b.sets) n).isSome)) ⟨[], rfl, .nil⟩ ?_ ?_ ?_
  · rintro i H' _ ⟨as, rfl, _⟩
    exact .of ((same_upd hD) _ _ e1)
  · rintro i y H' hy ⟨as', rfl, hA⟩
    obtain ⟨q, hq, rfl⟩ := rV_get hy
    obtain ⟨o, ho, hO⟩ := hns.get hq
    have s6 : Same H1 (upd H1 D (.lst (rV as'))) := same_upd hD
    have F6 := hl1.sub.trans s6
    have l6 := s6 _ _ (s1 _ _ l1)
    refine ⟨rfl, _, rfl, _, rfl, la, _, dx, _, _, rfl, l6, T.c_Land, T.a_Land_places, rfl, pa, _, rfl, dget_name (F6 _ _ lp1) (hO.mono s6), _, rfl, ?_⟩
    rw [pl_some lp2]
    have fs := filter_snoc (q := fun n => !(placeIn (placing b.sets) n).isSome) ho
    cases cn : (placeIn (placing b.sets) o).isSome with
    | true =>
      simp only [cn, Bool.not_true, Bool.false_eq_true, if_false, List.append_nil] at fs
      refine iteF ⟨as', rfl, ?_⟩
      rw [fs]
      exact hA
    | false =>
      simp only [cn, Bool.not_false, if_true] at fs
      refine iteT ⟨_, rfl, _, upd_same, ?_, as' ++ [q], ?_, ?_⟩
      · rw [rV_len, hA.len]
        have z1 := List.length_filter_le (fun n => !(placeIn (placing b.sets) n).isSome) (b.names.take i)
        rw [List.length_take] at z1
        have z2 := names_len wf
        exact small_line (by omega)
      · rw [upd_upd, rV_snoc]
      · rw [fs]
        exact hA.snoc hO
  · rintro H' ⟨as', rfl, hA⟩
    have le : (rV ns).length = b.names.length := by rw [rV_len, hns.len]
    rw [le, List.take_length, ← lacking_is wf] at hA
    have s6 : Same H1 (upd H1 D (.lst (rV as'))) := same_upd hD
    refine ⟨_, rfl, D, as', _, rfl, upd_same, hA.imp fun _ _ => IsName.mono s6, ?_, ?_, ?_⟩
    · rw [lacking_is wf]
      have z1 := List.length_filter_le (fun n => !(placeIn (placing b.sets) n).isSome) b.names
      have z2 := names_len wf
      omega
    · intro n hn
      rw [lacking_is wf] at hn
      exact names31 wf n (List.mem_filter.mp hn).1
    · exact (k1.ret hl1).mono s6
end
end CB
end
section
set_option Elab.async false
set_option linter.all false
set_option maxRecDepth 100000
set_option maxHeartbeats 4000000
namespace CB
open PySem PySem.Spec PyProof.Rows L2
open LsText (Bytes spaced)
open LsChain (Book placeIn Told)
section
variable {P : Program} {w : World} {K : PySem.W.Frag} {mg : Str → Option Value} {base : Heap}
theorem ok_do_move (T : Txt K mg) : Ok P w K mg base CX0 7 ("do_move", none) ["land", "numbers", "rows"] (spDeed K 15) := by
  refine mk_ok T 106 rfl sc_do_move T.g_do_move (fun _ _ _ _ _ _ us hl => match us, hl with | [_, _, _], _ => rfl) len3 (fun cdv A outer s H vs Q E hr h => ?_)
  refine ⟨_, (pss_cons (ps_asg (pv 1) (pg_unl rfl (pgs_cons (pg_name (i := 3) sc_do_move.nd rfl (Or.inl rfl)) (pgs_cons (pg_name (i := 4) sc_do_move.nd rfl (Or.inl rfl)) pgs_nil))))
      (pss_cons (ps_if (pt_cmpR op_gt (pe_callB call_len (by rfl) T.n_len (by decide +kernel) (pa_cons (pe_ix ix_list (pv 2) pe_int (fun _ _ => rfl)) pa_nil)) (pe_cst T.m_MOST_NAME) (nomark _)) (pss_one (ps_ret (pe_lst (pa_cons (pe_cst T.m_TOO_LONG) pa_nil)))) pss_nil)
      (pss_cons (ps_if (PW.pt (pw_or (pt_not (pt_val (pe_c (ok_is_coordinate T) hr (pa_cons (pv 3) pa_nil)))) (pw_or1 (pt_not (pt_val (pe_c (ok_is_coordinate T) hr (pa_cons (pv 4) pa_nil))))))) (pss_one (ps_ret (pe_lst (pa_cons (pe_cst T.m_OUT_OF_BOUNDS) pa_nil)))) pss_nil)
      (pss_cons (ps_set (i := 5) sc_do_move.nd rfl (Or.inl rfl) (pe_callTy call_tuple_of (by rfl) T.n_tuple (by decide +kernel) (pa_cons (pe_ix ix_list (pv 2) pe_int (fun _ _ => rfl)) pa_nil)))
      (pss_cons (ps_if (pt_cmpR (op_notInD (hu65 hr)) (pv 5) (pe_lc (own := [("known", 6)]) (g := (gName 6)) (tt := tYes) (te := (tFld K (tVar 6) "name")) rfl sc_do_move.nd (pi_list (pe_c (ok_knowns_of T) hr (pa_cons (pe_fld (pv 0) rfl) pa_nil))) (blkOk_by (own := [("known", 6)]) (N := N_do_move) (sc := defScope s_do_move) (by decide +kernel)) (fun _ _ _ _ _ => (pg_name (i := 6) sc_do_move.nd rfl (Or.inl rfl))) (fun _ _ _ _ _ => pts_nil) (fun _ _ _ _ _ => (pe_fld (pv 6) rfl))) (by rfl)) (pss_one (ps_ret (pe_lst (pa_cons (pe_cst T.m_NO_SUCH) pa_nil)))) pss_nil)
      (pss_cons (ps_expr (pe_m (pv 0) T.c_Land T.h_Land_hold (ok_Land_hold T) hr (pa_cons (pe_c (ok_moved T) hr (pa_cons (pe_fld (pv 0) rfl) (pa_cons (pv 5) (pa_cons (pv 3) (pa_cons (pv 4) pa_nil))))) pa_nil)))
      (pss_one (ps_ret (pe_lst (pa_cons pe_int pa_nil)))))))))), ?_⟩
  obtain ⟨x0, x1, x2, rfl, h⟩ := h
  obtain ⟨la, na, ra, b, nums, rws, ras, c, F, rfl, rfl, rfl, hl, hna, hra, hrs, hsz, hc, h⟩ := h
  obtain ⟨i, j, r, t, rfl, rfl, ht, rfl⟩ := sh2 hc
  obtain ⟨x, rfl, hx⟩ := one_row hrs
  obtain ⟨e1, e2⟩ := text_row ht
  rw [e1] at hx
  have hF := hl.sub
  have wf := hl.wf
  obtain ⟨dx, ba, pa, l1, l2, l3, l4, _⟩ := id hl
  have st : ChainSpec.step b (.move t i j) = if 31 < t.length then (b, LsAns.says (-2)) else if 999999 < i ∨ 999999 < j then (b, LsAns.says (-1)) else if ((knoL b).map fun t => (knoOf t).1).contains t = true then (⟨b.unit, b.told.map (ChainSpec.moved t i j)⟩, LsAns.says 0) else (b, LsAns.says (-4)) := by
    rw [← move_any]
    rfl
  rw [st] at h
  refine ⟨_, rfl, na, _, rfl, .of (hF _ _ hna), rfl, _, _, rfl, _, _, rfl, rfl, ?_⟩
  refine ⟨_, rfl, _, _, _, _, rfl, rfl, .of (hF _ _ hra), atR0, _, _, rfl, .inl ⟨_, .of (hF _ _ hx), (bV_len t).symm⟩, _, _, rfl, rfl, _, rfl, ?_⟩
  by_cases c31 : 31 < t.length
  · rw [decide_eq_true (show (t.length : Int) > 31 by omega)]
    rw [if_pos c31] at h
    exact iteT ⟨(by show 1 ≤ sizeLine; decide), fun p hp => (h.ret hl).go (Same.refl _) hp⟩
  rw [decide_eq_false (show ¬ (t.length : Int) > 31 by omega)]
  rw [if_neg c31] at h
  refine iteF ⟨_, rfl, _, rfl, _, rfl, _, rfl, ?_⟩
  by_cases ci : i ≤ 999999
  rotate_left
  · rw [if_pos (.inl (by omega))] at h
    rw [show (decide ((0 : Int) ≤ (i : Int)) && decide ((i : Int) ≤ 999999)) = false by rw [decide_eq_false (show ¬ (i : Int) ≤ 999999 by omega), Bool.and_false]]
    exact iteT (iteT ⟨(by show 1 ≤ sizeLine; decide), fun p hp => (h.ret hl).go (Same.refl _) hp⟩)
  rw [show (decide ((0 : Int) ≤ (i : Int)) && decide ((i : Int) ≤ 999999)) = true by rw [decide_eq_true (show (i : Int) ≤ 999999 by omega), decide_eq_true (show (0 : Int) ≤ (i : Int) by omega)]; rfl]
  refine iteF ⟨_, rfl, _, rfl, _, rfl, _, rfl, ?_⟩
  by_cases cj : j ≤ 999999
  rotate_left
  · rw [if_pos (.inr (by omega))] at h
    rw [show (decide ((0 : Int) ≤ (j : Int)) && decide ((j : Int) ≤ 999999)) = false by rw [decide_eq_false (show ¬ (j : Int) ≤ 999999 by omega), Bool.and_false]]
    exact iteT ⟨(by show 1 ≤ sizeLine; decide), fun p hp => (h.ret hl).go (Same.refl _) hp⟩
  rw [show (decide ((0 : Int) ≤ (j : Int)) && decide ((j : Int) ≤ 999999)) = true by rw [decide_eq_true (show (j : Int) ≤ 999999 by omega), decide_eq_true (show (0 : Int) ≤ (j : Int) by omega)]; rfl]
  rw [if_neg (by omega)] at h
  refine iteF ⟨_, rfl, _, _, _, _, rfl, rfl, .of (hF _ _ hra), atR0, x, _, rfl, .inl ⟨.of (hF _ _ hx), fun ta hta => ?_⟩⟩
  have s1 : Same H (upd H ta (.tup (bV t))) := same_upd hta
  have gt : Gr H F (upd H ta (.tup (bV t))) (upd F ta (.tup (bV t))) := (Gr.refl hF).put hta
  have hl1 := hl.gr gt
  have h1 : RetD K _ _ la _ _ Q := h.gr hl gt
  have hta1 : IsName (upd F ta (.tup (bV t))) ta t := upd_same
  refine ⟨_, rfl, _, rfl, la, _, dx, _, _, rfl, s1 _ _ l1, T.c_Land, T.a_Land_book, rfl, _, rfl, ba, b, _, rfl, l3.mono gt.fr, gt.sub, fun kl H2 ks hkl s2 e2' hks => ?_⟩
  have hl2 := hl1.same s2
  have h2 := h1.same hl1 s2
  refine ⟨kl, rfl, ⟨_, .of e2'⟩, fun D hD => ?_⟩
  refine lc_list (K := K) (a := kl) (xs := rV ks) (fun i H' => ∃ as, H' = upd H2 D (.lst (rV as)) ∧ All2 (IsName (upd F ta (.tup (bV t)))) as (((knoL b).take i).map fun k => (knoOf k).1)) ⟨[], rfl, .nil⟩ ?_ ?_ ?_
  · rintro i H' _ ⟨as, rfl, _⟩
    exact .of ((same_upd hD) _ _ e2')
  · rintro i y H' hy ⟨as', rfl, hA⟩
    obtain ⟨q, hq, rfl⟩ := rV_get hy
    obtain ⟨k, hk, hT⟩ := hks.get hq
    have hk : (knoL b)[i]? = some k := hk
    have tk := (List.mem_filter.mp (List.mem_of_getElem? hk)).2
    rw [told_known tk] at hT
    obtain ⟨kx, nk, k1, k2⟩ := hT
    have F5 := hl2.sub.trans (same_upd (o := .lst (rV as')) hD)
    refine ⟨rfl, yes ?_⟩
    refine iteT ⟨_, rfl, q, _, kx, _, _, rfl, F5 _ _ k1, T.c_Known, T.a_Known_name, rfl, _, upd_same, ?_, as' ++ [nk], ?_, ?_⟩
    · rw [rV_len, hA.len, List.length_map, List.length_take]
      have z2 := kno_len wf
      exact small_line (by omega)
    · rw [upd_upd, rV_snoc]
    · rw [take_snoc hk, List.map_append]
      exact hA.snoc k2
  · rintro H' ⟨as', rfl, hA⟩
    have le : (rV ks).length = (knoL b).length := by rw [rV_len, hks.len]; rfl
    rw [le, List.take_length] at hA
    have s3 : Same H2 (upd H2 D (.lst (rV as'))) := same_upd hD
    have hl3 := hl2.same s3
    have h3 := h2.same hl2 s3
    have eD : upd H2 D (.lst (rV as')) D = some (.lst (rV as')) := upd_same
    generalize upd H2 D (.lst (rV as')) = H3 at s3 hl3 h3 eD ⊢
    refine ⟨nmD t, ((knoL b).map fun k => (knoOf k).1).map nmD, IsName.dp (hta1.mono hl3.sub), dp_names (.of eD) (hA.imp fun _ _ => IsName.mono hl3.sub), nmD_shaped t, nms_shaped _, ?_⟩
    rw [nms_any]
    refine ⟨_, rfl, ?_⟩
    cases ct : ((knoL b).map fun k => (knoOf k).1).contains t with
    | false =>
      rw [ct, if_neg Bool.false_ne_true] at h3
      exact iteT ⟨(by show 1 ≤ sizeLine; decide), fun p hp => (h3.ret hl3).go (Same.refl _) hp⟩
    | true =>
      rw [ct, if_pos rfl] at h3
      have l13 := (s2.trans s3) _ _ (s1 _ _ l1)
      refine iteF ⟨_, rfl, la, dx, _, rfl, l13, rfl, ?_⟩
      refine ⟨_, rfl, la, _, dx, _, _, rfl, l13, T.c_Land, T.a_Land_book, rfl, _, rfl, _, rfl, _, rfl, _, _, _, _, rfl, ba, ta, b, t, i, j, _, rfl, rfl, rfl, rfl, l3.mono gt.fr, hta1, ci, cj, hl3.sub, ?_⟩
      rintro _ H4 F4 g4 ⟨nb, rfl, hnb⟩
      have hl4 := hl3.gr g4
      have h4 := h3.gr hl3 g4
      refine ⟨_, _, rfl, la, nb, b, _, F4, rfl, rfl, hl4, hnb, fun H5 F5 g5 hl5 => ?_⟩
      refine ⟨(by show 1 ≤ sizeLine; decide), fun p hp => ?_⟩
      exact h4 _ F5 p (g5.trans (gm_same hl5.sub (same_upd hp)) hl5.there) (free_land g5 hl5 hp) (hl5.same (same_upd hp)) upd_same
theorem ok_do_strike (T : Txt K mg) : Ok P w K mg base CX0 7 ("do_strike", none) ["land", "numbers", "rows"] (spDeed K 16) := by
  refine mk_ok T 107 rfl sc_do_strike T.g_do_strike (fun _ _ _ _ _ _ us hl => match us, hl with | [_, _, _], _ => rfl) len3 (fun cdv A outer s H vs Q E hr h => ?_)
  refine ⟨_, (pss_cons (ps_if (pt_cmpR op_ge (pe_ix ix_list (pv 1) pe_int (fun _ _ => rfl)) (pe_callB call_len (by rfl) T.n_len (by decide +kernel) (pa_cons (pe_c (ok_lines_of T) hr (pa_cons (pe_fld (pv 0) rfl) pa_nil)) pa_nil)) (nomark _)) (pss_one (ps_ret (pe_lst (pa_cons (pe_cst T.m_NO_SUCH) pa_nil)))) pss_nil)
      (pss_cons (ps_expr (pe_m (pv 0) T.c_Land T.h_Land_hold (ok_Land_hold T) hr (pa_cons (pe_c (ok_struck T) hr (pa_cons (pe_fld (pv 0) rfl) (pa_cons (pe_ix ix_list (pv 1) pe_int (fun _ _ => rfl)) pa_nil))) pa_nil)))
      (pss_one (ps_ret (pe_lst (pa_cons pe_int pa_nil)))))), ?_⟩
  obtain ⟨x0, x1, x2, rfl, h⟩ := h
  obtain ⟨la, na, ra, b, nums, rws, ras, c, F, rfl, rfl, rfl, hl, hna, hra, hrs, hsz, hc, h⟩ := h
  obtain ⟨n, rfl, rfl, rfl⟩ := sh1 (f := .strike) (.inr (.inr (.inr (.inr ⟨rfl, rfl⟩)))) hc
  have hF := hl.sub
  have wf := hl.wf
  obtain ⟨dx, ba, pa, l1, l2, l3, l4, _⟩ := id hl
  have st : ChainSpec.step b (.strike n) = if b.lines.length ≤ n then (b, LsAns.says (-4)) else (⟨b.unit, ChainSpec.without n b.told⟩, LsAns.says 0) := rfl
  rw [st] at h
  refine ⟨_, rfl, _, _, _, _, rfl, rfl, .of (hF _ _ hna), atR0, _, rfl, la, _, dx, _, _, rfl, l1, T.c_Land, T.a_Land_book, rfl, _, rfl, ba, b, F, rfl, l3, hF, fun p1 H1 a1 hp1 s1 e1 n1 => ⟨_, _, rfl, .inl ⟨_, .of e1, rfl⟩, _, _, rfl, rfl, _, rfl, ?_⟩⟩
  have ll : (rV a1).length = b.lines.length := by rw [rV_len, n1.len]
  have hl1 := hl.same s1
  have h1 : RetD K _ _ la _ _ Q := h.same hl s1
  by_cases c : b.lines.length ≤ n
  · rw [decide_eq_true (show (n : Int) ≥ ((rV a1).length : Int) by omega)]
    rw [if_pos c] at h1
    exact iteT ⟨(by show 1 ≤ sizeLine; decide), fun p hp => (h1.ret hl1).go (Same.refl _) hp⟩
  · rw [decide_eq_false (show ¬ (n : Int) ≥ ((rV a1).length : Int) by omega)]
    rw [if_neg c] at h1
    have l11 := s1 _ _ l1
    refine iteF ⟨_, rfl, la, dx, _, rfl, l11, rfl, ?_⟩
    refine ⟨_, rfl, la, _, dx, _, _, rfl, l11, T.c_Land, T.a_Land_book, rfl, _, rfl, _, _, _, _, rfl, rfl, .of (hl1.sub _ _ hna), atR0, _, _, rfl, ba, b, n, F, rfl, rfl, l3, hl1.sub, ?_⟩
    rintro _ H4 F4 g4 ⟨nb, rfl, hnb⟩
    have hl4 := hl1.gr g4
    have h4 := h1.gr hl1 g4
    refine ⟨_, _, rfl, la, nb, b, _, F4, rfl, rfl, hl4, hnb, fun H5 F5 g5 hl5 => ?_⟩
    refine ⟨(by show 1 ≤ sizeLine; decide), fun p hp => ?_⟩
    exact h4 _ F5 p (g5.trans (gm_same hl5.sub (same_upd hp)) hl5.there) (free_land g5 hl5 hp) (hl5.same (same_upd hp)) upd_same
theorem ok_do_stretch (T : Txt K mg) : Ok P w K mg base CX0 4 ("do_stretch", none) ["land", "numbers", "rows"] (spDeed K 13) := by
  refine mk_ok T 104 rfl sc_do_stretch T.g_do_stretch (fun _ _ _ _ _ _ us hl => match us, hl with | [_, _, _], _ => rfl) len3 (fun cdv A outer s H vs Q E hr h => ?_)
  refine ⟨_, (pss_cons (ps_set (i := 3) sc_do_stretch.nd rfl (Or.inl rfl) (pe_c (ok_lines_of T) hr (pa_cons (pe_fld (pv 0) rfl) pa_nil)))
      (pss_cons (ps_if (pt_cmpR op_ge (pe_ix ix_list (pv 1) pe_int (fun _ _ => rfl)) (pe_callB call_len (by rfl) T.n_len (by decide +kernel) (pa_cons (pv 3) pa_nil)) (nomark _)) (pss_one (ps_ret (pe_lst (pa_cons (pe_cst T.m_NO_SUCH) pa_nil)))) pss_nil)
      (pss_cons (ps_set (i := 4) sc_do_stretch.nd rfl (Or.inl rfl) (pe_ix ix_list (pv 3) (pe_ix ix_list (pv 1) pe_int (fun _ _ => rfl)) (fun _ _ => rfl)))
      (pss_cons (ps_if (pt_not (pt_val (pe_c (ok_stands T) hr (pa_cons (pe_fld (pv 0) rfl) (pa_cons (pv 4) pa_nil))))) (pss_one (ps_ret (pe_lst (pa_cons (pe_cst T.m_NOT_NOW) pa_nil)))) pss_nil)
      (pss_one (ps_ret (pe_op op_cat (pe_lst (pa_cons pe_int pa_nil)) (pe_callTy call_list_of (by rfl) T.n_list (by decide +kernel) (pa_cons (pe_c (ok_stretch_of T) hr (pa_cons (pe_fld (pv 0) rfl) (pa_cons (pe_fld (pv 0) rfl) (pa_cons (pv 4) pa_nil)))) pa_nil))))))))), ?_⟩
  obtain ⟨x0, x1, x2, rfl, h⟩ := h
  obtain ⟨la, na, ra, b, nums, rws, ras, c, F, rfl, rfl, rfl, hl, hna, hra, hrs, hsz, hc, h⟩ := h
  obtain ⟨n, rfl, rfl, rfl⟩ := sh1 (f := .stretch) (.inr (.inr (.inr (.inl ⟨rfl, rfl⟩)))) hc
  have hF := hl.sub
  have wf := hl.wf
  obtain ⟨dx, ba, pa, l1, l2, l3, ⟨L, lp1, lp2⟩, _⟩ := id hl
  have st : ChainSpec.step b (.stretch n) = (b, match b.lines[n]? with
    | none => LsAns.says (-4)
    | some l => match stretchOf b.unit (placing b.sets) l with
      | none => LsAns.says (-5)
      | some r => LsAns.tells 0 (ChainSpec.frac r)) := by
    show (b, match b.lines[n]? with
      | none => LsAns.says (-4)
      | some l => match b.stretch l with
        | none => LsAns.says (-5)
        | some r => LsAns.tells 0 (ChainSpec.frac r)) = _
    cases b.lines[n]? with
    | none => rfl
    | some l =>
      simp only
      rw [stretch_is wf]
  rw [st] at h
  refine ⟨_, rfl, la, _, dx, _, _, rfl, l1, T.c_Land, T.a_Land_book, rfl, _, rfl, ba, b, F, rfl, l3, hF, fun p1 H1 a1 hp1 s1 e1 n1 => ?_⟩
  have hl1 := hl.same s1
  have h1 : RetD K _ _ la _ _ Q := h.same hl s1
  have ll : (rV a1).length = b.lines.length := by rw [rV_len, n1.len]
  have hF1 := hl1.sub
  refine ⟨_, rfl, _, _, _, _, rfl, rfl, .of (hF1 _ _ hna), atR0, _, rfl, _, _, rfl, .inl ⟨_, .of e1, rfl⟩, _, _, rfl, rfl, _, rfl, ?_⟩
  by_cases c : b.lines.length ≤ n
  · rw [decide_eq_true (show (n : Int) ≥ ((rV a1).length : Int) by omega)]
    rw [List.getElem?_eq_none c] at h1
    exact iteT ⟨(by show 1 ≤ sizeLine; decide), fun p hp => (h1.ret hl1).go (Same.refl _) hp⟩
  · rw [decide_eq_false (show ¬ (n : Int) ≥ ((rV a1).length : Int) by omega)]
    obtain ⟨l, hll⟩ : ∃ l, b.lines[n]? = some l := ⟨_, List.getElem?_eq_getElem (by omega)⟩
    rw [hll] at h1
    simp only at h1
    obtain ⟨lx, hlx, hL⟩ := n1.get' hll
    have wl := wf.line (List.mem_of_getElem? hll)
    have lp11 := hF1 _ _ lp1
    have hLH := lp2.imp (plR.mono hF1)
    have l11 := s1 _ _ l1
    refine iteF ⟨_, rfl, _, rfl, _, _, _, _, rfl, rfl, .of (hF1 _ _ hna), atR0, _, _, _, _, rfl, rfl, .of e1, atI_nat (rV_at hlx), ?_⟩
    refine ⟨_, rfl, la, _, dx, _, _, rfl, l11, T.c_Land, T.a_Land_places, rfl, _, rfl, _, _, rfl, pa, lx, L, placing b.sets, l, rfl, rfl, lp11, hLH, hL.mono hF1, _, rfl, ?_⟩
    rw [← stretch_told (u := b.unit)]
    cases cs : stretchOf b.unit (placing b.sets) l with
    | none =>
      rw [cs] at h1
      exact iteT ⟨(by show 1 ≤ sizeLine; decide), fun p hp => (h1.ret hl1).go (Same.refl _) hp⟩
    | some q =>
      rw [cs] at h1
      simp only at h1
      refine iteF ⟨(by show 1 ≤ sizeLine; decide), fun z hz => ?_⟩
      have s2 : Same H1 (upd H1 z (.lst [.int 0])) := same_upd hz
      have hl2 := hl1.same s2
      have h2 := h1.same hl1 s2
      have l12 := s2 _ _ l11
      refine ⟨_, rfl, la, _, dx, _, _, rfl, l12, T.c_Land, T.a_Land_book, rfl, _, rfl, la, _, dx, _, _, rfl, l12, T.c_Land, T.a_Land_places, rfl, _, rfl, _, _, _, rfl, ba, pa, lx, b, L, placing b.sets, l, q, rfl, rfl, rfl, l3.mono hl2.sub, s2 _ _ lp11, hLH.imp (plR.mono s2), (hL.mono hF1).mono s2, ⟨wl.2.2.1, wl.2.2.2.1⟩, cs, fun p2 H2 hp2 s3 f2 _ _ => ?_⟩
      refine ⟨p2, _, rfl, .inr (.of f2), fun y hy => ?_⟩
      refine ⟨z, y, [.int 0], fracV q, rfl, rfl, ?_, upd_same, (by show 3 ≤ sizeLine; decide), fun p3 hp3 => ?_⟩
      · rw [upd_ne (ne_some (s3 _ _ upd_same) hy)]
        exact s3 _ _ upd_same
      · exact (h2.ret hl2).go (same_upd2 s3 hy) hp3
end
end CB
end
section
set_option Elab.async false
set_option linter.all false
set_option maxRecDepth 100000
set_option maxHeartbeats 4000000
namespace CB
open PySem PySem.Spec PyProof.Rows L2
open LsText (Bytes spaced)
open LsChain (Book placeIn Told Places Point along)
open ChainSpec (allOf)
def refusal (b : Book) (f : Nat) : Int := if f < 1 ∨ 9999 < f then -1 else if featL b f = [] then -4 else if (featL b f).all (fun p => standsB (placing b.sets) p.1) = true then 0 else -5
def ptsF (b : Book) (f : Nat) : List Point := (featL b f).filterMap (atOf (placing b.sets))
theorem stands_at {S : Places} {p : LineT × LsChain.Entry} : standsB S p.1 = (atOf S p).isSome := by
  unfold standsB atOf
  cases placeIn S p.1.1 <;> cases placeIn S p.1.2.1 <;> rfl
theorem allOf_map {α : Type} {g : α → Option Point} : ∀ l : List α, allOf (l.map g) = if l.all (fun a => (g a).isSome) = true then some (l.filterMap g) else none
  | [] => rfl
  | a :: l => by
    rw [List.map_cons, List.all_cons]
    cases c : g a with
    | none => simp [allOf]
    | some p =>
      rw [allOf, allOf_map l, List.filterMap_cons_some c]
      cases d : l.all (fun a => (g a).isSome) <;> simp [d]
theorem ofFeature_is {b : Book} (wf : WfB b) (f : Nat) (g : List Point → LsAns.Ans) : ChainSpec.ofFeature b f g = if refusal b f < 0 then LsAns.says (refusal b f) else g (ptsF b f) := by
  unfold ChainSpec.ofFeature refusal
  by_cases c1 : f < 1 ∨ 9999 < f
  · rw [if_pos c1, if_pos c1]
    rfl
  rw [if_neg c1, if_neg c1, feature_is wf]
  by_cases c2 : featL b f = []
  · rw [if_pos c2, c2]
    rfl
  rw [if_neg c2]
  have e : (featL b f).all (fun p => standsB (placing b.sets) p.1) = (featL b f).all (fun p => (atOf (placing b.sets) p).isSome) := by
    congr 1
    funext p
    exact stands_at
  rw [e]
  have a := allOf_map (g := atOf (placing b.sets)) (featL b f)
  obtain ⟨p, l, hl⟩ : ∃ p l, featL b f = p :: l := by
    cases h : featL b f with
    | nil => exact absurd h c2
    | cons p l => exact ⟨p, l, rfl⟩
  unfold ptsF
  rw [hl] at a ⊢
  rw [List.map_cons] at a ⊢
  simp only
  rw [a]
  cases d : (p :: l).all (fun p => (atOf (placing b.sets) p).isSome)
  · rfl
  · rfl
theorem met_len {b : Book} (wf : WfB b) (k : Nat) : (metL b k).length ≤ 512 := by
  have l1 := List.length_filter_le (fun p : LineT × LsChain.Entry => mkKind p.2.mark == k) (entriesL b)
  have l2 := entries_len b
  have l3 := wf.e512
  show ((entriesL b).filter fun p : LineT × LsChain.Entry => mkKind p.2.mark == k).length ≤ 512
  omega
theorem feat_len {b : Book} (wf : WfB b) (f : Nat) : (featL b f).length ≤ 512 := Nat.le_trans (List.length_filter_le _ _) (met_len wf 2)
theorem pts_len {b : Book} (wf : WfB b) (f : Nat) : (ptsF b f).length ≤ 512 := Nat.le_trans (List.length_filterMap_le _ _) (feat_len wf f)
theorem ents_mem : ∀ {ls : List LineT} {p : LineT × LsChain.Entry}, p ∈ ents ls → p.1 ∈ ls ∧ p.2 ∈ p.1.2.2.2 := fun {ls p} h => by
  obtain ⟨l, hl, h2⟩ := List.mem_flatMap.mp h
  obtain ⟨e, he, rfl⟩ := List.mem_map.mp h2
  exact ⟨hl, he⟩
theorem met_wf {b : Book} (wf : WfB b) {k : Nat} {p : LineT × LsChain.Entry} (h : p ∈ metL b k) : WfP p := by
  obtain ⟨h1, h2⟩ := ents_mem (List.mem_filter.mp h).1
  exact wf.pair h1 h2
def spFeatRef (K : PySem.W.Frag) : Sp := sp2 fun x y H Q _ => ∃ (la : Addr) (b : Book) (f : Nat) (F : Hp), x = .ref la ∧ y = .int (f : Int) ∧ LandIs K H F la b ∧ ∀ H2 F2, Gr H F H2 F2 → Q (.int (refusal b f)) H2
def RPts (ps : List Point) : Hp → V → Prop := fun F v => ∃ p as, v = .ref p ∧ F p = some (.lst (rV as)) ∧ All2 (IsPt 2300 F) as ps
def spFeatPl (K : PySem.W.Frag) : Sp := sp2 fun x y H Q _ => ∃ (la : Addr) (b : Book) (f : Nat) (F : Hp), x = .ref la ∧ y = .int (f : Int) ∧ LandIs K H F la b ∧ (∀ p ∈ featL b f, standsB (placing b.sets) p.1 = true) ∧ Res H F Q (RPts (ptsF b f))
section
variable {P : Program} {w : World} {K : PySem.W.Frag} {mg : Str → Option Value} {base : Heap}
theorem ok_feature_refusal (T : Txt K mg) : Ok P w K mg base CX0 4 ("feature_refusal", none) ["land", "number"] (spFeatRef K) := by
  refine mk_ok T 98 rfl sc_feature_refusal T.g_feature_refusal (fun _ _ _ _ _ _ us hl => match us, hl with | [_, _], _ => rfl) len2 (fun cdv A outer s H vs Q E hr h => ?_)
  refine ⟨_, (pss_cons (ps_if (pt_not (pt_val (pe_c (ok_is_feature_number T) hr (pa_cons (pv 1) pa_nil)))) (pss_one (ps_ret (pe_cst T.m_OUT_OF_BOUNDS))) pss_nil)
      (pss_cons (ps_setLc (i := 3) (own := [("line", 2), ("entry", 4)]) (g := (gTup K 2 (gCons (gName 2) (gCons (gName 4) gNil)))) (tt := (tTest (tOp rEq (tFld K (tVar 4) "number") (tVar 1)))) (te := (tVar 2)) rfl sc_feature_refusal.nd rfl rfl (sw_true rfl rfl rfl (by decide +kernel)) (pi_list (pe_c (ok_met_of T) hr (pa_cons (pe_fld (pv 0) rfl) (pa_cons (pe_cst T.m_FEATURE) pa_nil)))) (blkOk_by (own := [("line", 2), ("entry", 4)]) (N := N_feature_refusal) (sc := defScope s_feature_refusal) (by decide +kernel)) (fun _ _ _ _ _ => (pg_tup (by rfl) (pgs_cons (pg_name (i := 2) sc_feature_refusal.nd rfl (Or.inl rfl)) (pgs_cons (pg_name (i := 4) sc_feature_refusal.nd rfl (Or.inl rfl)) pgs_nil)))) (fun _ _ _ _ _ => (pts_one (pt_cmpR op_eq (pe_fld (pv 4) rfl) (pv 1) (nomark _)))) (fun _ _ _ _ _ => (pv 2)))
      (pss_cons (ps_if (pt_not (pt_truth (pv 3) (by intro _; rfl))) (pss_one (ps_ret (pe_cst T.m_NO_SUCH))) pss_nil)
      (pss_cons (ps_for PassesOwn.never rfl (pi_list (pv 3)) (pg_name (i := 2) sc_feature_refusal.nd rfl (Or.inl rfl))
      (pss_one (ps_if (pt_not (pt_val (pe_c (ok_stands T) hr (pa_cons (pe_fld (pv 0) rfl) (pa_cons (pv 2) pa_nil))))) (pss_one (ps_ret (pe_cst T.m_NOT_NOW))) pss_nil)))
      (pss_one (ps_ret pe_int)))))), ?_⟩
  obtain ⟨x0, x1, rfl, h⟩ := h
  obtain ⟨la, b, f, F, rfl, rfl, hl, h⟩ := h
  have hF := hl.sub
  have wf := hl.wf
  obtain ⟨dx, ba, pa, l1, l2, l3, ⟨L, lp1, lp2⟩, _⟩ := id hl
  refine ⟨_, rfl, _, rfl, (f : Int), rfl, ?_⟩
  unfold refusal at h
  by_cases c1 : (1 : Int) ≤ f
  rotate_left
  · rw [if_pos (.inl (by omega))] at h
    rw [decide_eq_false c1, Bool.false_and]
    exact ⟨_, rfl, iteT (h _ _ (Gr.refl hF))⟩
  by_cases c2 : (f : Int) ≤ 9999
  rotate_left
  · rw [if_pos (.inr (by omega))] at h
    rw [decide_eq_false c2, Bool.and_false]
    exact ⟨_, rfl, iteT (h _ _ (Gr.refl hF))⟩
  rw [if_neg (by omega)] at h
  rw [decide_eq_true c1, decide_eq_true c2]
  refine ⟨_, rfl, iteF ⟨_, rfl, la, _, dx, _, _, rfl, l1, T.c_Land, T.a_Land_book, rfl, _, _, rfl, ba, b, 2, F, rfl, rfl, l3, hF, ?_⟩⟩
  rintro _ H2 F2 g2 ⟨ml, ms, rfl, hml, hms⟩
  refine ⟨ml, rfl, ⟨_, .of (g2.sub _ _ hml)⟩, fun D hD => ?_⟩
  refine lc_list (K := K) (a := ml) (xs := rV ms) (fun j H'' => ∃ F3 qs, Gr H2 F2 H'' F3 ∧ Own H2 H'' F3 D (.lst (rV qs)) ∧ All2 (fun q (p : LineT × LsChain.Entry) => IsLin K F3 q p.1) qs (((metL b 2).take j).filter fun p => mkNum p.2.mark == f)) ⟨F2, [], (Gr.refl g2.sub).add hD, Own.first (Gr.refl g2.sub) hD, .nil⟩ ?_ ?_ ?_
  · rintro j H'' _ ⟨F3, qs, g3, o3, hq3⟩
    exact .of (g3.keep _ _ (g2.sub _ _ hml))
  · rintro j y H'' hy ⟨F3, qs, g3, o3, hq3⟩
    obtain ⟨r, hr1, rfl⟩ := rV_get hy
    obtain ⟨p, hp, hP⟩ := hms.get hr1
    obtain ⟨la', ea, t1, t2, t3⟩ := hP.mono g3.fr
    obtain ⟨ex, na, e1, e2⟩ := id t3
    refine ⟨r, _, rfl, .of (g3.sub _ _ t1), rfl, _, _, rfl, _, _, rfl, rfl, rfl, ?_⟩
    refine ⟨_, rfl, ea, _, ex, _, _, rfl, g3.sub _ _ e1, T.c_Entry, T.a_Entry_number, rfl, _, rfl, rfl, _, rfl, ?_⟩
    have d : decide (V.int (mkNum p.2.mark : Int) = V.int (f : Int)) = (mkNum p.2.mark == f) := bool_eq (by
      rw [decide_eq_true_eq, beq_iff_eq]
      exact ⟨fun z => by have := V.int.inj z; omega, fun z => by rw [z]⟩)
    rw [d]
    have ft : ((metL b 2).take (j + 1)).filter (fun p => mkNum p.2.mark == f) = ((metL b 2).take j).filter (fun p => mkNum p.2.mark == f) ++ [p].filter (fun p => mkNum p.2.mark == f) := by
      rw [take_snoc hp, List.filter_append]
    cases q : (mkNum p.2.mark == f) with
    | true =>
      refine iteT ⟨_, rfl, _, o3.at_, ?_, F3, qs ++ [la'], g3.own o3, ?_, ?_⟩
      · rw [rV_len, hq3.len]
        have l1 := List.length_filter_le (fun p : LineT × LsChain.Entry => mkNum p.2.mark == f) ((metL b 2).take j)
        rw [List.length_take] at l1
        have l2 := met_len wf 2
        exact small_line (by omega)
      · rw [rV_snoc]
        exact o3.set
      · rw [ft]
        have : [p].filter (fun p => mkNum p.2.mark == f) = [p] := by simp [q]
        rw [this]
        exact hq3.snoc t2
    | false =>
      refine iteF ⟨F3, qs, g3, o3, ?_⟩
      rw [ft]
      have : [p].filter (fun p => mkNum p.2.mark == f) = [] := by simp [q]
      rw [this, List.append_nil]
      exact hq3
  · rintro H'' ⟨F3, qs, g3, o3, hq3⟩
    rw [rV_len, hms.len, List.take_length] at hq3
    have g4 := g2.trans (g3.freeze o3.new o3.out o3.at_)
    have hq4 : All2 (fun q (p : LineT × LsChain.Entry) => IsLin K (upd F3 D (.lst (rV qs))) q p.1) qs (featL b f) := hq3.imp fun _ _ => IsLin.mono (same_upd o3.out)
    have eD := o3.at_
    generalize upd F3 D (.lst (rV qs)) = F4 at g4 hq4
    have len : (rV qs).length = (featL b f).length := by rw [rV_len, hq4.len]
    refine ⟨_, rfl, _, .inl ⟨_, .of eD, rfl⟩, ?_⟩
    by_cases c3 : featL b f = []
    · rw [if_pos c3] at h
      rw [c3] at len
      rw [List.length_eq_zero_iff.mp len]
      exact iteT (h _ _ g4)
    rw [if_neg c3] at h
    have ne : (rV qs).isEmpty = false := by
      cases z : rV qs with
      | nil =>
        rw [z] at len
        exact absurd (List.length_eq_zero_iff.mp len.symm) c3
      | cons x xs => rfl
    rw [ne]
    have lp14 := g4.sub _ _ (g4.fr _ _ lp1)
    have hLH := lp2.imp (plR.mono (g4.fr.trans g4.sub))
    have l14 := g4.keep _ _ l1
    refine iteF ⟨_, rfl, D, rfl, ⟨_, .of eD⟩, for_list (K := K) (a := D) (xs := rV qs) (fun j σ H' => ∃ v u, H' = H'' ∧ σ = [some (.ref la), some (.int (f : Int)), v, some (.ref D), u] ∧ ((featL b f).take j).all (fun p => standsB (placing b.sets) p.1) = true) ⟨none, none, rfl, rfl, rfl⟩ ?_ ?_ ?_⟩
    · rintro j σ H' _ ⟨v, u, rfl, rfl, _⟩
      exact .of eD
    · rintro j x σ H' hx ⟨v, u, rfl, rfl, ih⟩
      obtain ⟨q, hq, rfl⟩ := rV_get hx
      obtain ⟨p, hp, hP⟩ := hq4.get hq
      refine ⟨_, rfl, la, _, dx, _, _, rfl, l14, T.c_Land, T.a_Land_places, rfl, _, rfl, _, _, rfl, pa, q, L, placing b.sets, p.1, rfl, rfl, lp14, hLH, hP.mono g4.sub, _, rfl, ?_⟩
      cases c : standsB (placing b.sets) p.1 with
      | false =>
        have e : (featL b f).all (fun p => standsB (placing b.sets) p.1) = false := by
          rw [List.all_eq_false]
          exact ⟨p, List.mem_of_getElem? hp, by rw [c]; decide⟩
        rw [e] at h
        exact iteT (h _ _ g4)
      | true =>
        refine iteF ⟨_, _, rfl, rfl, ?_⟩
        rw [take_snoc hp, List.all_append, ih]
        simp [c]
    · rintro σ H' ⟨v, u, rfl, rfl, ih⟩
      rw [len, List.take_length] at ih
      rw [ih] at h
      exact h _ _ g4
theorem ok_feature_places (T : Txt K mg) : Ok P w K mg base CX0 5 ("feature_places", none) ["land", "number"] (spFeatPl K) := by
  refine mk_ok T 99 rfl sc_feature_places T.g_feature_places (fun _ _ _ _ _ _ us hl => match us, hl with | [_, _], _ => rfl) len2 (fun cdv A outer s H vs Q E hr h => ?_)
  refine ⟨_, (pss_cons (ps_set (i := 2) sc_feature_places.nd rfl (Or.inl rfl) (pe_lst pa_nil))
      (pss_cons (ps_for PassesOwn.never rfl (pi_list (pe_c (ok_met_of T) hr (pa_cons (pe_fld (pv 0) rfl) (pa_cons (pe_cst T.m_FEATURE) pa_nil)))) (pg_tup (by rfl) (pgs_cons (pg_name (i := 3) sc_feature_places.nd rfl (Or.inl rfl)) (pgs_cons (pg_name (i := 4) sc_feature_places.nd rfl (Or.inl rfl)) pgs_nil)))
      (pss_one (ps_if (pt_cmpR op_eq (pe_fld (pv 4) rfl) (pv 1) (nomark _)) (pss_one (ps_expr (pe_bm PySem.F.plainAttrs_list PySem.F.slot_list_append PySem.F.type_list_append mt_append (pv 2) (pa_cons (pe_c (ok_met_place T) hr (pa_cons (pe_fld (pv 0) rfl) (pa_cons (pv 3) (pa_cons (pv 4) pa_nil)))) pa_nil)))) pss_nil)))
      (pss_one (ps_ret (pv 2))))), ?_⟩
  obtain ⟨x0, x1, rfl, h⟩ := h
  obtain ⟨la, b, f, F, rfl, rfl, hl, hst, h⟩ := h
  have hF := hl.sub
  have wf := hl.wf
  obtain ⟨dx, ba, pa, l1, l2, l3, ⟨L, lp1, lp2⟩, _⟩ := id hl
  refine ⟨(by show 0 ≤ sizeLine; decide), fun fd hfd => ?_⟩
  have g0 : Gr H F (upd H fd (.lst [])) F := (Gr.refl hF).add hfd
  refine ⟨_, rfl, la, _, dx, _, _, rfl, g0.keep _ _ l1, T.c_Land, T.a_Land_book, rfl, _, _, rfl, ba, b, 2, F, rfl, rfl, l3, g0.sub, ?_⟩
  rintro _ H2 F2 g1 ⟨ml, ms, rfl, hml, hms⟩
  have o1 : Own H H2 F2 fd (.lst []) := (Own.first (Gr.refl hF) hfd).go g1
  have g2 := g0.trans g1
  refine ⟨ml, rfl, ⟨_, .of (g1.sub _ _ hml)⟩, for_list (K := K) (a := ml) (xs := rV ms) (fun j σ H' => ∃ F3 as v u, σ = [some (.ref la), some (.int (f : Int)), some (.ref fd), v, u] ∧ Gr H F H' F3 ∧ Same F2 F3 ∧ Own H H' F3 fd (.lst (rV as)) ∧ All2 (IsPt 2300 F3) as (((((metL b 2).take j).filter fun p => mkNum p.2.mark == f)).filterMap (atOf (placing b.sets)))) ⟨F2, [], none, none, rfl, g2, Same.refl _, o1, .nil⟩ ?_ ?_ ?_⟩
  · rintro j σ H' _ ⟨F3, as, v, u, rfl, g, gf, o, hA⟩
    exact .of (g.sub _ _ (gf _ _ hml))
  · rintro j x σ H' hx ⟨F3, as, v, u, rfl, g, gf, o, hA⟩
    obtain ⟨r, hr1, rfl⟩ := rV_get hx
    obtain ⟨p, hp, hP⟩ := hms.get hr1
    obtain ⟨la', ea, t1, t2, t3⟩ := hP.mono gf
    obtain ⟨ex, na, e1, e2⟩ := id t3
    refine ⟨r, _, rfl, .of (g.sub _ _ t1), rfl, _, _, rfl, _, _, rfl, rfl, ?_⟩
    refine ⟨_, rfl, ea, _, ex, _, _, rfl, g.sub _ _ e1, T.c_Entry, T.a_Entry_number, rfl, _, rfl, rfl, _, rfl, ?_⟩
    have d : decide (V.int (mkNum p.2.mark : Int) = V.int (f : Int)) = (mkNum p.2.mark == f) := bool_eq (by
      rw [decide_eq_true_eq, beq_iff_eq]
      exact ⟨fun z => by have := V.int.inj z; omega, fun z => by rw [z]⟩)
    rw [d]
    have ft : ((metL b 2).take (j + 1)).filter (fun p => mkNum p.2.mark == f) = ((metL b 2).take j).filter (fun p => mkNum p.2.mark == f) ++ [p].filter (fun p => mkNum p.2.mark == f) := by
      rw [take_snoc hp, List.filter_append]
    cases q : (mkNum p.2.mark == f) with
    | true =>
      have mp : p ∈ featL b f := List.mem_filter.mpr ⟨List.mem_of_getElem? hp, q⟩
      have z2 := hst p mp
      unfold standsB at z2
      obtain ⟨z3, z4⟩ := Bool.and_eq_true_iff.mp z2
      obtain ⟨pp, hpp⟩ := Option.isSome_iff_exists.mp z3
      obtain ⟨qq, hqq⟩ := Option.isSome_iff_exists.mp z4
      have wp : WfP p := met_wf wf (List.mem_of_getElem? hp)
      have pl := g.sub _ _ (g.fr _ _ lp1)
      have hLH := lp2.imp (plR.mono (g.fr.trans g.sub))
      refine iteT ⟨_, rfl, .inl ⟨rfl, _, SqL.of o.at_⟩, _, rfl, la, _, dx, _, _, rfl, g.keep _ _ l1, T.c_Land, T.a_Land_places, rfl, _, rfl, _, rfl, _, _, _, rfl, pa, la', ea, L, placing b.sets, p.1, p.2, pp, qq, F3, rfl, rfl, rfl, pl, hLH, t2.mono g.sub, t3.mono g.sub, wp, hpp, hqq, g.sub, ?_⟩
      rintro _ H6 F6 g6 ⟨t1, rfl, pt⟩
      have o6 := o.go g6
      have g7 := g.trans g6
      refine ⟨fd, _, _, rfl, rfl, o6.at_, ?_, F6, as ++ [t1], _, _, rfl, g7.own o6, gf.trans g6.fr, ?_, ?_⟩
      · rw [rV_len, hA.len]
        have x1 := List.length_filterMap_le (atOf (placing b.sets)) (((metL b 2).take j).filter fun p => mkNum p.2.mark == f)
        have x2 := List.length_filter_le (fun p : LineT × LsChain.Entry => mkNum p.2.mark == f) ((metL b 2).take j)
        rw [List.length_take] at x2
        have x3 := met_len wf 2
        exact small_line (by omega)
      · rw [rV_snoc]
        exact o6.set
      · rw [ft]
        have : [p].filter (fun p => mkNum p.2.mark == f) = [p] := by simp [q]
        rw [this, List.filterMap_append]
        have ap : atOf (placing b.sets) p = some (along pp qq p.1.2.2.1 (p.2.at_ : Int) (mkBes p.2.mark)) := by
          unfold atOf
          rw [hpp, hqq]
        rw [List.filterMap_cons_some ap]
        exact (hA.imp fun _ _ => IsPt.mono g6.fr).snoc pt
    | false =>
      refine iteF ⟨F3, as, _, _, rfl, g, gf, o, ?_⟩
      rw [ft]
      have : [p].filter (fun p => mkNum p.2.mark == f) = [] := by simp [q]
      rw [this, List.append_nil]
      exact hA
  · rintro σ H' ⟨F3, as, v, u, rfl, g, gf, o, hA⟩
    rw [rV_len, hms.len, List.take_length] at hA
    refine ⟨_, rfl, h _ _ _ (g.freeze o.new o.out o.at_) ⟨fd, as, rfl, upd_same, hA.imp fun _ _ => IsPt.mono (same_upd o.out)⟩⟩
end
end CB
end
section
set_option Elab.async false
set_option linter.all false
set_option maxRecDepth 100000
set_option maxHeartbeats 4000000
namespace CB
open PySem PySem.Spec PyProof.Rows L2
open LsText (Bytes spaced)
open LsChain (Book placeIn Told Places Point along)
theorem refusal_end {b : Book} (wf : WfB b) {f : Nat} (h : ¬ refusal b f < 0) : ∀ p ∈ featL b f, standsB (placing b.sets) p.1 = true := by
  unfold refusal at h
  by_cases c1 : f < 1 ∨ 9999 < f
  · rw [if_pos c1] at h
    exact absurd (by decide) h
  rw [if_neg c1] at h
  by_cases c2 : featL b f = []
  · rw [if_pos c2] at h
    exact absurd (by decide) h
  rw [if_neg c2] at h
  cases c : (featL b f).all (fun p => standsB (placing b.sets) p.1) with
  | false =>
    rw [c] at h
    exact absurd (by decide) h
  | true => exact List.all_eq_true.mp c
theorem IsPt.le {j k : Nat} {F : Hp} {a : Addr} {p : Point} (h : IsPt j F a p) (l : j ≤ k) : IsPt k F a p := by
  obtain ⟨e, n, b, h1, h2, h3, h4, h5, h6, h7⟩ := h
  exact ⟨e, n, b, h1, h2, h3, h4, h5.le l, h6.le l, h7.le l⟩
theorem told_tells (a : Int) (l : List Int) : LsRows.told (LsAns.tells a l) = a :: l := by
  show a :: (l ++ List.map _ []) = _
  rw [List.map_nil, List.append_nil]
def fracs (p : Point) : List Int := ChainSpec.frac p.1 ++ ChainSpec.frac p.2
theorem fracs_len (p : Point) : (fracs p).length = 4 := rfl
theorem fracs_total (l : List Point) : (l.flatMap fracs).length = 4 * l.length := by
  induction l with
  | nil => rfl
  | cons p l ih =>
    rw [List.flatMap_cons, List.length_append, ih, fracs_len, List.length_cons]
    omega
section
variable {P : Program} {w : World} {K : PySem.W.Frag} {mg : Str → Option Value} {base : Heap}
theorem ok_do_feature (T : Txt K mg) : Ok P w K mg base CX0 6 ("do_feature", none) ["land", "numbers", "rows"] (spDeed K 9) := by
  refine mk_ok T 100 rfl sc_do_feature T.g_do_feature (fun _ _ _ _ _ _ us hl => match us, hl with | [_, _, _], _ => rfl) len3 (fun cdv A outer s H vs Q E hr h => ?_)
  refine ⟨_, (pss_cons (ps_set (i := 3) sc_do_feature.nd rfl (Or.inl rfl) (pe_c (ok_feature_refusal T) hr (pa_cons (pv 0) (pa_cons (pe_ix ix_list (pv 1) pe_int (fun _ _ => rfl)) pa_nil))))
      (pss_cons (ps_if (pt_cmpR op_lt (pv 3) pe_int (nomark _)) (pss_one (ps_ret (pe_lst (pa_cons (pv 3) pa_nil)))) pss_nil)
      (pss_cons (ps_set (i := 4) sc_do_feature.nd rfl (Or.inl rfl) (pe_c (ok_feature_places T) hr (pa_cons (pv 0) (pa_cons (pe_ix ix_list (pv 1) pe_int (fun _ _ => rfl)) pa_nil))))
      (pss_cons (ps_set (i := 5) sc_do_feature.nd rfl (Or.inl rfl) (pe_lst (pa_cons (pe_callB call_len (by rfl) T.n_len (by decide +kernel) (pa_cons (pv 4) pa_nil)) pa_nil)))
      (pss_cons (ps_for PassesOwn.never rfl (pi_list (pv 4)) (pg_name (i := 6) sc_do_feature.nd rfl (Or.inl rfl))
      (pss_one (ps_expr (pe_bm PySem.F.plainAttrs_list PySem.F.slot_list_extend PySem.F.type_list_extend mt_extend (pv 5) (pa_cons (pe_c (ok_shares_of T) hr (pa_cons (pv 6) pa_nil)) pa_nil)))))
      (pss_one (ps_ret (pv 5)))))))), ?_⟩
  obtain ⟨x0, x1, x2, rfl, h⟩ := h
  obtain ⟨la, na, ra, b, nums, rws, ras, c, F, rfl, rfl, rfl, hl, hna, hra, hrs, hsz, hc, h⟩ := h
  obtain ⟨f, rfl, rfl, rfl⟩ := sh1 (f := .feature) (.inl ⟨rfl, rfl⟩) hc
  have hF := hl.sub
  have wf := hl.wf
  have st : ChainSpec.step b (.feature f) = (b, ChainSpec.ofFeature b f fun (l : List Point) => LsAns.tells (l.length : Int) (l.flatMap fracs)) := rfl
  rw [st, ofFeature_is wf] at h
  refine ⟨_, rfl, _, rfl, _, _, _, _, rfl, rfl, .of (hF _ _ hna), atR0, _, _, rfl, la, b, f, F, rfl, rfl, hl, fun H1 F1 g1 => ?_⟩
  have hl1 := hl.gr g1
  have h1 := h.gr hl g1
  refine ⟨_, rfl, _, _, rfl, rfl, _, rfl, ?_⟩
  by_cases c0 : refusal b f < 0
  · rw [if_pos c0] at h1
    rw [decide_eq_true c0]
    exact iteT ⟨_, rfl, (by show 1 ≤ sizeLine; decide), fun p hp => (h1.ret hl1).go (Same.refl _) hp⟩
  rw [if_neg c0] at h1
  rw [decide_eq_false c0]
  have hst := refusal_end wf c0
  refine iteF ⟨_, rfl, _, rfl, _, _, _, _, rfl, rfl, .of (hl1.sub _ _ (g1.fr _ _ hna)), atR0, _, _, rfl, la, b, f, F1, rfl, rfl, hl1, hst, ?_⟩
  rintro _ H2 F2 g2 ⟨pl, ps, rfl, hpl, hps⟩
  have hl2 := hl1.gr g2
  have h2 := h1.gr hl1 g2
  have lp : (rV ps).length = (ptsF b f).length := by rw [rV_len, hps.len]
  have pm := pts_len wf f
  refine ⟨_, rfl, _, _, rfl, .inl ⟨_, .of (g2.sub _ _ hpl), rfl⟩, (by show 1 ≤ sizeLine; decide), fun A hA => ?_⟩
  rw [lp]
  refine ⟨_, rfl, pl, rfl, ⟨_, .of ((same_upd hA) _ _ (g2.sub _ _ hpl))⟩, for_list (K := K) (a := pl) (xs := rV ps) (fun j σ H' => ∃ v, σ = [some (.ref la), some (.ref na), some (.ref ra), some (.int (refusal b f)), some (.ref pl), some (.ref A), v] ∧ Gr H2 F2 H' F2 ∧ Own H2 H' F2 A (.lst (iV (((ptsF b f).length : Int) :: ((ptsF b f).take j).flatMap fracs)))) ⟨none, rfl, (Gr.refl g2.sub).add hA, Own.first (Gr.refl g2.sub) hA⟩ ?_ ?_ ?_⟩
  · rintro j σ H' _ ⟨v, rfl, g, o⟩
    exact .of (g.sub _ _ hpl)
  · rintro j x σ H' hx ⟨v, rfl, g, o⟩
    obtain ⟨r, hr1, rfl⟩ := rV_get hx
    obtain ⟨p, hp, hP⟩ := hps.get hr1
    refine ⟨_, rfl, .inl ⟨rfl, _, SqL.of o.at_⟩, _, rfl, _, rfl, r, p, rfl, (IsPt.mono g.sub hP).le (by decide), fun z H3 hz s3 e3 => ?_⟩
    refine ⟨A, z, _, _, rfl, rfl, s3 _ _ o.at_, e3, ?_, ?_⟩
    · have x1 := fracs_total ((ptsF b f).take j)
      rw [List.length_take] at x1
      show (iV _).length + (iV (fracs p)).length ≤ _
      unfold iV
      rw [List.length_map, List.length_map, List.length_cons, fracs_len, x1]
      exact size_ok (by omega)
    · have g3 : Gr H' F2 H3 F2 := ⟨s3, Same.refl _, g.sub.trans s3, fun _ _ _ => rfl⟩
      have o3 := o.go g3
      refine ⟨_, rfl, (g.trans g3).own o3, ?_⟩
      have ee : iV (((ptsF b f).length : Int) :: ((ptsF b f).take j).flatMap fracs) ++ (fracV p.1 ++ fracV p.2) = iV (((ptsF b f).length : Int) :: ((ptsF b f).take (j + 1)).flatMap fracs) := by
        rw [flat_snoc hp, ← List.cons_append, ← iV_app]
        rfl
      rw [ee]
      exact o3.set
  · rintro σ H' ⟨v, rfl, g, o⟩
    rw [lp, List.take_length] at o
    refine ⟨_, rfl, (h2.ret hl2) _ _ o.new g.keep ?_⟩
    rw [told_tells]
    exact o.at_
end
end CB
end
section
set_option Elab.async false
set_option linter.all false
set_option maxRecDepth 100000
set_option maxHeartbeats 4000000
namespace CB
open PySem PySem.Spec PyProof.Rows L2
open LsText (Bytes spaced)
open LsChain (Book placeIn Told Places Point along nearest)
def rp (p : Point) : Int × Int := (nearest p.1, nearest p.2)
def pr2 (p : Int × Int) : List Int := [p.1, p.2]
theorem pr2_total (l : List (Int × Int)) : (l.flatMap pr2).length = 2 * l.length := by
  induction l with
  | nil => rfl
  | cons p l ih =>
    rw [List.flatMap_cons, List.length_append, ih, List.length_cons]
    show 2 + _ = _
    omega
theorem inLand_is (p : Int × Int) : ChainSpec.inLand p = !(decide (p.1 < 0) || (decide (p.1 > 999999) || (decide (p.2 < 0) || decide (p.2 > 999999)))) := by
  unfold ChainSpec.inLand
  have e : ((ChainSpec.LAND : Nat) : Int) = 999999 := rfl
  rw [e]
  refine bool_eq ?_
  simp only [Bool.and_eq_true, decide_eq_true_eq, Bool.not_eq_true', Bool.or_eq_false_iff, decide_eq_false_iff_not]
  omega
section
variable {P : Program} {w : World} {K : PySem.W.Frag} {mg : Str → Option Value} {base : Heap}
theorem ok_do_rounded (T : Txt K mg) : Ok P w K mg base CX0 6 ("do_rounded", none) ["land", "numbers", "rows"] (spDeed K 10) := by
  refine mk_ok T 101 rfl sc_do_rounded T.g_do_rounded (fun _ _ _ _ _ _ us hl => match us, hl with | [_, _, _], _ => rfl) len3 (fun cdv A outer s H vs Q E hr h => ?_)
  refine ⟨_, (pss_cons (ps_set (i := 3) sc_do_rounded.nd rfl (Or.inl rfl) (pe_c (ok_feature_refusal T) hr (pa_cons (pv 0) (pa_cons (pe_ix ix_list (pv 1) pe_int (fun _ _ => rfl)) pa_nil))))
      (pss_cons (ps_if (pt_cmpR op_lt (pv 3) pe_int (nomark _)) (pss_one (ps_ret (pe_lst (pa_cons (pv 3) pa_nil)))) pss_nil)
      (pss_cons (ps_set (i := 4) sc_do_rounded.nd rfl (Or.inl rfl) (pe_c (ok_feature_places T) hr (pa_cons (pv 0) (pa_cons (pe_ix ix_list (pv 1) pe_int (fun _ _ => rfl)) pa_nil))))
      (pss_cons (ps_set (i := 5) sc_do_rounded.nd rfl (Or.inl rfl) (pe_lst (pa_cons (pe_callB call_len (by rfl) T.n_len (by decide +kernel) (pa_cons (pv 4) pa_nil)) pa_nil)))
      (pss_cons (ps_for PassesOwn.never rfl (pi_list (pv 4)) (pg_tup (by rfl) (pgs_cons (pg_name (i := 6) sc_do_rounded.nd rfl (Or.inl rfl)) (pgs_cons (pg_name (i := 7) sc_do_rounded.nd rfl (Or.inl rfl)) (pgs_cons (pg_name (i := 8) sc_do_rounded.nd rfl (Or.inl rfl)) pgs_nil))))
      (pss_cons (ps_set (i := 9) sc_do_rounded.nd rfl (Or.inl rfl) (pe_c (ok_nearest_whole T) hr (pa_cons (pe_c (ok_lowest T) hr (pa_cons (pv 6) (pa_cons (pv 8) pa_nil))) pa_nil)))
      (pss_cons (ps_set (i := 10) sc_do_rounded.nd rfl (Or.inl rfl) (pe_c (ok_nearest_whole T) hr (pa_cons (pe_c (ok_lowest T) hr (pa_cons (pv 7) (pa_cons (pv 8) pa_nil))) pa_nil)))
      (pss_cons (ps_if (PW.pt (pw_or (pt_cmpR op_lt (pv 9) pe_int (nomark _)) (pw_or (pt_cmpR op_gt (pv 9) (pe_cst T.m_TOP_COORDINATE) (nomark _)) (pw_or (pt_cmpR op_lt (pv 10) pe_int (nomark _)) (pw_or1 (pt_cmpR op_gt (pv 10) (pe_cst T.m_TOP_COORDINATE) (nomark _))))))) (pss_one (ps_ret (pe_lst (pa_cons (pe_cst T.m_NOT_NOW) pa_nil)))) pss_nil)
      (pss_one (ps_expr (pe_bm PySem.F.plainAttrs_list PySem.F.slot_list_extend PySem.F.type_list_extend mt_extend (pv 5) (pa_cons (pe_lst (pa_cons (pv 9) (pa_cons (pv 10) pa_nil))) pa_nil))))))))
      (pss_one (ps_ret (pv 5)))))))), ?_⟩
  obtain ⟨x0, x1, x2, rfl, h⟩ := h
  obtain ⟨la, na, ra, b, nums, rws, ras, c, F, rfl, rfl, rfl, hl, hna, hra, hrs, hsz, hc, h⟩ := h
  obtain ⟨f, rfl, rfl, rfl⟩ := sh1 (f := .rounded) (.inr (.inl ⟨rfl, rfl⟩)) hc
  have hF := hl.sub
  have wf := hl.wf
  have st : ChainSpec.step b (.rounded f) = (b, ChainSpec.ofFeature b f fun (l : List Point) => if (l.map rp).all ChainSpec.inLand = true then LsAns.tells ((l.map rp).length : Int) ((l.map rp).flatMap pr2) else LsAns.says (-5)) := rfl
  rw [st, ofFeature_is wf] at h
  refine ⟨_, rfl, _, rfl, _, _, _, _, rfl, rfl, .of (hF _ _ hna), atR0, _, _, rfl, la, b, f, F, rfl, rfl, hl, fun H1 F1 g1 => ?_⟩
  have hl1 := hl.gr g1
  have h1 := h.gr hl g1
  refine ⟨_, rfl, _, _, rfl, rfl, _, rfl, ?_⟩
  by_cases c0 : refusal b f < 0
  · rw [if_pos c0] at h1
    rw [decide_eq_true c0]
    exact iteT ⟨_, rfl, (by show 1 ≤ sizeLine; decide), fun p hp => (h1.ret hl1).go (Same.refl _) hp⟩
  rw [if_neg c0] at h1
  rw [decide_eq_false c0]
  have hst := refusal_end wf c0
  refine iteF ⟨_, rfl, _, rfl, _, _, _, _, rfl, rfl, .of (hl1.sub _ _ (g1.fr _ _ hna)), atR0, _, _, rfl, la, b, f, F1, rfl, rfl, hl1, hst, ?_⟩
  rintro _ H2 F2 g2 ⟨pl, ps, rfl, hpl, hps⟩
  have hl2 := hl1.gr g2
  have h2 := h1.gr hl1 g2
  have lp : (rV ps).length = (ptsF b f).length := by rw [rV_len, hps.len]
  have pm := pts_len wf f
  refine ⟨_, rfl, _, _, rfl, .inl ⟨_, .of (g2.sub _ _ hpl), rfl⟩, (by show 1 ≤ sizeLine; decide), fun A hA => ?_⟩
  rw [lp]
  refine ⟨_, rfl, pl, rfl, ⟨_, .of ((same_upd hA) _ _ (g2.sub _ _ hpl))⟩, for_list (K := K) (a := pl) (xs := rV ps) (fun j σ H' => ∃ v1 v2 v3 v4 v5, σ = [some (.ref la), some (.ref na), some (.ref ra), some (.int (refusal b f)), some (.ref pl), some (.ref A), v1, v2, v3, v4, v5] ∧ Gr H2 F2 H' F2 ∧ Own H2 H' F2 A (.lst (iV (((ptsF b f).length : Int) :: (((ptsF b f).take j).map rp).flatMap pr2))) ∧ (((ptsF b f).take j).map rp).all ChainSpec.inLand = true) ⟨none, none, none, none, none, rfl, (Gr.refl g2.sub).add hA, Own.first (Gr.refl g2.sub) hA, rfl⟩ ?_ ?_ ?_⟩
  · rintro j σ H' _ ⟨v1, v2, v3, v4, v5, rfl, g, o, il⟩
    exact .of (g.sub _ _ hpl)
  · rintro j x σ H' hx ⟨v1, v2, v3, v4, v5, rfl, g, o, il⟩
    obtain ⟨r, hr1, rfl⟩ := rV_get hx
    obtain ⟨p, hp, hP⟩ := hps.get hr1
    obtain ⟨e, n, bb, q1, q2, q3, rfl, q5, q6, q7⟩ := hP
    refine ⟨r, _, rfl, .of (g.sub _ _ q1), rfl, _, _, rfl, _, _, rfl, _, _, rfl, rfl, ?_⟩
    refine ⟨_, rfl, _, rfl, _, _, rfl, e, bb, rfl, rfl, q2, q7.le (by decide), fun z1 H3 hz1 s3 e3 => ?_⟩
    have m1 : SmQ 8000 ((e : Rat) / (bb : Rat)) := smQ q2 (q5.le (by decide)) (q7.le (by decide))
    refine ⟨_, rfl, z1, _, rfl, .of e3, m1, ?_⟩
    refine ⟨_, rfl, _, rfl, _, _, rfl, n, bb, rfl, rfl, q2, q7.le (by decide), fun z2 H4 hz2 s4 e4 => ?_⟩
    have m2 : SmQ 8000 ((n : Rat) / (bb : Rat)) := smQ q2 (q6.le (by decide)) (q7.le (by decide))
    refine ⟨_, rfl, z2, _, rfl, .of e4, m2, ?_⟩
    refine ⟨_, rfl, ?_⟩
    have bad : ChainSpec.inLand (nearest ((e : Rat) / (bb : Rat)), nearest ((n : Rat) / (bb : Rat))) = false → RetL (iV [-5]) H2 Q := fun z => by
      have e5 : ((ptsF b f).map rp).all ChainSpec.inLand = false := by
        rw [List.all_eq_false]
        exact ⟨_, List.mem_map.mpr ⟨_, List.mem_of_getElem? hp, rfl⟩, by rw [show rp (ptOf e n bb) = (nearest ((e : Rat) / (bb : Rat)), nearest ((n : Rat) / (bb : Rat))) from rfl, z]; decide⟩
      rw [e5, if_neg (by decide)] at h2
      exact h2.ret hl2
    have good : ChainSpec.inLand (nearest ((e : Rat) / (bb : Rat)), nearest ((n : Rat) / (bb : Rat))) = true → (((ptsF b f).take (j + 1)).map rp).all ChainSpec.inLand = true := fun z => by
      rw [take_snoc hp, List.map_append, List.all_append, il]
      simp [show rp (ptOf e n bb) = (nearest ((e : Rat) / (bb : Rat)), nearest ((n : Rat) / (bb : Rat))) from rfl, z]
    have sk : Same H2 H4 := g.keep.trans (s3.trans s4)
    have ee : (((ptsF b f).take (j + 1)).map rp).flatMap pr2 = (((ptsF b f).take j).map rp).flatMap pr2 ++ [nearest ((e : Rat) / (bb : Rat)), nearest ((n : Rat) / (bb : Rat))] := by
      rw [take_snoc hp, List.map_append, List.flatMap_append]
      rfl
    rw [inLand_is] at bad good
    generalize nearest ((e : Rat) / (bb : Rat)) = X at bad good ee ⊢
    generalize nearest ((n : Rat) / (bb : Rat)) = Y at bad good ee ⊢
    refine ⟨_, _, rfl, rfl, _, rfl, ?_⟩
    simp only at bad good
    by_cases x0 : X < 0
    · rw [decide_eq_true x0] at bad ⊢
      exact iteT (iteT ⟨(by show 1 ≤ sizeLine; decide), fun p hp => (bad rfl).go sk hp⟩)
    rw [decide_eq_false x0] at bad good ⊢
    refine iteF ⟨_, rfl, _, _, rfl, rfl, _, rfl, ?_⟩
    by_cases x1 : X > 999999
    · rw [decide_eq_true x1] at bad ⊢
      exact iteT (iteT ⟨(by show 1 ≤ sizeLine; decide), fun p hp => (bad rfl).go sk hp⟩)
    rw [decide_eq_false x1] at bad good ⊢
    refine iteF ⟨_, rfl, _, _, rfl, rfl, _, rfl, ?_⟩
    by_cases y0 : Y < 0
    · rw [decide_eq_true y0] at bad ⊢
      exact iteT (iteT ⟨(by show 1 ≤ sizeLine; decide), fun p hp => (bad rfl).go sk hp⟩)
    rw [decide_eq_false y0] at bad good ⊢
    refine iteF ⟨_, rfl, _, _, rfl, rfl, _, rfl, ?_⟩
    by_cases y1 : Y > 999999
    · rw [decide_eq_true y1] at bad ⊢
      exact iteT ⟨(by show 1 ≤ sizeLine; decide), fun p hp => (bad rfl).go sk hp⟩
    rw [decide_eq_false y1] at bad good ⊢
    have g3 : Gr H' F2 H4 F2 := ⟨s3.trans s4, Same.refl _, g.sub.trans (s3.trans s4), fun _ _ _ => rfl⟩
    have o3 := o.go g3
    refine iteF ⟨_, rfl, .inl ⟨rfl, _, SqL.of o3.at_⟩, _, rfl, _, rfl, (by show 2 ≤ sizeLine; decide), fun z5 hz5 => ?_⟩
    have g5 := (g.trans g3).add (o := .lst [.int X, .int Y]) hz5
    have o5 := o3.add (u := .lst [.int X, .int Y]) hz5
    refine ⟨A, z5, _, [.int X, .int Y], rfl, rfl, o5.at_, upd_same, ?_, _, _, _, _, _, rfl, g5.own o5, ?_, good rfl⟩
    · have x1 := pr2_total (((ptsF b f).take j).map rp)
      rw [List.length_map, List.length_take] at x1
      show (iV _).length + 2 ≤ _
      unfold iV
      rw [List.length_map, List.length_cons, x1]
      exact size_ok (by omega)
    · have e6 : iV (((ptsF b f).length : Int) :: (((ptsF b f).take j).map rp).flatMap pr2) ++ [.int X, .int Y] = iV (((ptsF b f).length : Int) :: (((ptsF b f).take (j + 1)).map rp).flatMap pr2) := by
        rw [ee, ← List.cons_append, ← iV_app]
        rfl
      rw [e6]
      exact o5.set
  · rintro σ H' ⟨v1, v2, v3, v4, v5, rfl, g, o, il⟩
    rw [lp, List.take_length] at o
    rw [lp, List.take_length] at il
    rw [if_pos il] at h2
    refine ⟨_, rfl, (h2.ret hl2) _ _ o.new g.keep ?_⟩
    rw [told_tells, List.length_map]
    exact o.at_
end
end CB
end
section
set_option Elab.async false
set_option linter.all false
set_option maxRecDepth 100000
set_option maxHeartbeats 4000000
namespace CB
open PySem PySem.Spec PyProof.Rows L2
open LsText (Bytes spaced)
open LsChain (Book placeIn Told Places Point along square worstBy farther)
theorem worstOf_is (far : Rat → Rat → Bool) (l : List (Option Rat)) : ChainSpec.worstOf far l = if wI (worstBy far l) < 0 then LsAns.says (-3) else LsAns.tells (wI (worstBy far l)) (ChainSpec.frac (wR (worstBy far l))) := by
  unfold ChainSpec.worstOf
  cases worstBy far l with
  | none => rfl
  | some x =>
    show LsAns.tells (x.1 : Int) _ = if (x.1 : Int) < 0 then _ else _
    rw [if_neg (by omega)]
    rfl
section
variable {P : Program} {w : World} {K : PySem.W.Frag} {mg : Str → Option Value} {base : Heap}
theorem ok_do_worst_tie (T : Txt K mg) : Ok P w K mg base CX0 7 ("do_worst_tie", none) ["land", "numbers", "rows"] (spDeed K 12) := by
  refine mk_ok T 103 rfl sc_do_worst_tie T.g_do_worst_tie (fun _ _ _ _ _ _ us hl => match us, hl with | [_, _, _], _ => rfl) len3 (fun cdv A outer s H vs Q E hr h => ?_)
  refine ⟨_, (pss_cons (ps_asg (pe_c (ok_worst_tie T) hr (pa_cons (pe_fld (pv 0) rfl) (pa_cons (pe_c (ok_met_of T) hr (pa_cons (pe_fld (pv 0) rfl) (pa_cons (pe_cst T.m_TIE) pa_nil))) pa_nil))) (pg_tup (by rfl) (pgs_cons (pg_name (i := 3) sc_do_worst_tie.nd rfl (Or.inl rfl)) (pgs_cons (pg_name (i := 4) sc_do_worst_tie.nd rfl (Or.inl rfl)) pgs_nil))))
      (pss_cons (ps_if (pt_cmpR op_lt (pv 3) pe_int (nomark _)) (pss_one (ps_ret (pe_lst (pa_cons (pe_cst T.m_NOTHING_YET) pa_nil)))) pss_nil)
      (pss_one (ps_ret (pe_lst (pa_cons (pv 3) (pa_cons (pe_ix ix_tup (pv 4) pe_int (fun _ _ => rfl)) (pa_cons (pe_ix ix_tup (pv 4) pe_int (fun _ _ => rfl)) pa_nil)))))))), ?_⟩
  obtain ⟨x0, x1, x2, rfl, h⟩ := h
  obtain ⟨la, na, ra, b, nums, rws, ras, c, F, rfl, rfl, rfl, hl, hna, hra, hrs, hsz, hc, h⟩ := h
  obtain ⟨rfl, rfl, rfl⟩ := sh0 (f := .worstTie) (.inr (.inr (.inr (.inl ⟨rfl, rfl⟩)))) hc
  have hF := hl.sub
  have wf := hl.wf
  obtain ⟨dx, ba, pa, l1, l2, l3, ⟨L, lp1, lp2⟩, _⟩ := id hl
  have st : ChainSpec.step b .worstTie = (b, ChainSpec.worstOf (fun (x y : Rat) => decide (y < x)) (b.ties.map fun (p : Option Point) => p.map square)) := rfl
  rw [st, worstOf_is, ties_is wf] at h
  refine ⟨_, rfl, la, _, dx, _, _, rfl, l1, T.c_Land, T.a_Land_places, rfl, _, rfl, la, _, dx, _, _, rfl, l1, T.c_Land, T.a_Land_book, rfl, _, _, rfl, ba, b, 1, F, rfl, rfl, l3, hF, ?_⟩
  rintro _ H1 F1 g1 ⟨ml, ms, rfl, hml, hms⟩
  have hl1 := hl.gr g1
  have h1 := h.gr hl g1
  refine ⟨_, _, rfl, pa, ml, L, placing b.sets, ms, metL b 1, rfl, rfl, g1.sub _ _ (g1.fr _ _ lp1), lp2.imp (plR.mono (g1.fr.trans g1.sub)), g1.sub _ _ hml, hms.imp fun _ _ => IsPair.mono g1.sub, fun p hp => met_wf wf hp, fun z H2 ma hz s2 e2 f2 => ?_⟩
  have hl2 := hl1.same s2
  have h2 := h1.same hl1 s2
  refine ⟨z, _, rfl, .of e2, rfl, _, _, rfl, _, _, rfl, rfl, ?_⟩
  refine ⟨_, rfl, _, _, rfl, rfl, _, rfl, ?_⟩
  generalize worstBy (fun (x y : Rat) => decide (y < x)) (((metL b 1).map (tieOf (placing b.sets))).map fun p => p.map square) = W at h2 f2 ⊢
  by_cases c : wI W < 0
  · rw [if_pos c] at h2
    rw [decide_eq_true c]
    exact iteT ⟨(by show 1 ≤ sizeLine; decide), fun p hp => (h2.ret hl2).go (Same.refl _) hp⟩
  · rw [if_neg c] at h2
    rw [decide_eq_false c]
    refine iteF ⟨_, rfl, _, rfl, _, _, _, _, rfl, rfl, .of f2, atR0, _, rfl, _, _, _, _, rfl, rfl, .of f2, atI_nat (j := 1) rfl, (by show 3 ≤ sizeLine; decide), fun p hp => ?_⟩
    exact (h2.ret hl2).go (Same.refl _) hp
theorem ok_do_worst_line (T : Txt K mg) : Ok P w K mg base CX0 5 ("do_worst_line", none) ["land", "numbers", "rows"] (spDeed K 14) := by
  refine mk_ok T 105 rfl sc_do_worst_line T.g_do_worst_line (fun _ _ _ _ _ _ us hl => match us, hl with | [_, _, _], _ => rfl) len3 (fun cdv A outer s H vs Q E hr h => ?_)
  refine ⟨_, (pss_cons (ps_asg (pe_c (ok_worst_line T) hr (pa_cons (pe_fld (pv 0) rfl) (pa_cons (pe_fld (pv 0) rfl) (pa_cons (pe_c (ok_lines_of T) hr (pa_cons (pe_fld (pv 0) rfl) pa_nil)) pa_nil)))) (pg_tup (by rfl) (pgs_cons (pg_name (i := 3) sc_do_worst_line.nd rfl (Or.inl rfl)) (pgs_cons (pg_name (i := 4) sc_do_worst_line.nd rfl (Or.inl rfl)) pgs_nil))))
      (pss_cons (ps_if (pt_cmpR op_lt (pv 3) pe_int (nomark _)) (pss_one (ps_ret (pe_lst (pa_cons (pe_cst T.m_NOTHING_YET) pa_nil)))) pss_nil)
      (pss_one (ps_ret (pe_lst (pa_cons (pv 3) (pa_cons (pe_ix ix_tup (pv 4) pe_int (fun _ _ => rfl)) (pa_cons (pe_ix ix_tup (pv 4) pe_int (fun _ _ => rfl)) pa_nil)))))))), ?_⟩
  obtain ⟨x0, x1, x2, rfl, h⟩ := h
  obtain ⟨la, na, ra, b, nums, rws, ras, c, F, rfl, rfl, rfl, hl, hna, hra, hrs, hsz, hc, h⟩ := h
  obtain ⟨rfl, rfl, rfl⟩ := sh0 (f := .worstLine) (.inr (.inr (.inr (.inr ⟨rfl, rfl⟩)))) hc
  have hF := hl.sub
  have wf := hl.wf
  obtain ⟨dx, ba, pa, l1, l2, l3, ⟨L, lp1, lp2⟩, _⟩ := id hl
  have st : ChainSpec.step b .worstLine = (b, ChainSpec.worstOf farther (b.lines.map b.stretch)) := rfl
  have es : b.lines.map b.stretch = b.lines.map (stretchOf b.unit (placing b.sets)) := List.map_congr_left fun l _ => stretch_is wf l
  rw [st, worstOf_is, es] at h
  refine ⟨_, rfl, la, _, dx, _, _, rfl, l1, T.c_Land, T.a_Land_book, rfl, _, rfl, la, _, dx, _, _, rfl, l1, T.c_Land, T.a_Land_places, rfl, _, rfl, la, _, dx, _, _, rfl, l1, T.c_Land, T.a_Land_book, rfl, _, rfl, ba, b, F, rfl, l3, hF, fun p1 H1 a1 hp1 s1 e1 n1 => ?_⟩
  have hl1 := hl.same s1
  have h1 := h.same hl s1
  refine ⟨_, _, _, rfl, ba, pa, p1, b, L, placing b.sets, a1, b.lines, rfl, rfl, rfl, l3.mono hl1.sub, hl1.sub _ _ lp1, lp2.imp (plR.mono hl1.sub), e1, n1.imp fun _ _ => IsLin.mono hl1.sub, fun l hl => ⟨(wf.line hl).2.2.1, (wf.line hl).2.2.2.1⟩, fun z H2 ma hz s2 e2 f2 => ?_⟩
  have hl2 := hl1.same s2
  have h2 := h1.same hl1 s2
  refine ⟨z, _, rfl, .of e2, rfl, _, _, rfl, _, _, rfl, rfl, ?_⟩
  refine ⟨_, rfl, _, _, rfl, rfl, _, rfl, ?_⟩
  generalize worstBy farther (b.lines.map (stretchOf b.unit (placing b.sets))) = W at h2 f2 ⊢
  by_cases c : wI W < 0
  · rw [if_pos c] at h2
    rw [decide_eq_true c]
    exact iteT ⟨(by show 1 ≤ sizeLine; decide), fun p hp => (h2.ret hl2).go (Same.refl _) hp⟩
  · rw [if_neg c] at h2
    rw [decide_eq_false c]
    refine iteF ⟨_, rfl, _, rfl, _, _, _, _, rfl, rfl, .of f2, atR0, _, rfl, _, _, _, _, rfl, rfl, .of f2, atI_nat (j := 1) rfl, (by show 3 ≤ sizeLine; decide), fun p hp => ?_⟩
    exact (h2.ret hl2).go (Same.refl _) hp
theorem ok_do_tie (T : Txt K mg) : Ok P w K mg base CX0 6 ("do_tie", none) ["land", "numbers", "rows"] (spDeed K 11) := by
  refine mk_ok T 102 rfl sc_do_tie T.g_do_tie (fun _ _ _ _ _ _ us hl => match us, hl with | [_, _, _], _ => rfl) len3 (fun cdv A outer s H vs Q E hr h => ?_)
  refine ⟨_, (pss_cons (ps_set (i := 3) sc_do_tie.nd rfl (Or.inl rfl) (pe_c (ok_met_of T) hr (pa_cons (pe_fld (pv 0) rfl) (pa_cons (pe_cst T.m_TIE) pa_nil))))
      (pss_cons (ps_if (pt_cmpR op_ge (pe_ix ix_list (pv 1) pe_int (fun _ _ => rfl)) (pe_callB call_len (by rfl) T.n_len (by decide +kernel) (pa_cons (pv 3) pa_nil)) (nomark _)) (pss_one (ps_ret (pe_lst (pa_cons (pe_cst T.m_NO_SUCH) pa_nil)))) pss_nil)
      (pss_cons (ps_asg (pe_ix ix_list (pv 3) (pe_ix ix_list (pv 1) pe_int (fun _ _ => rfl)) (fun _ _ => rfl)) (pg_tup (by rfl) (pgs_cons (pg_name (i := 4) sc_do_tie.nd rfl (Or.inl rfl)) (pgs_cons (pg_name (i := 5) sc_do_tie.nd rfl (Or.inl rfl)) pgs_nil))))
      (pss_cons (ps_if (pt_not (pt_val (pe_c (ok_can_be_told T) hr (pa_cons (pe_fld (pv 0) rfl) (pa_cons (pv 4) (pa_cons (pv 5) pa_nil)))))) (pss_one (ps_ret (pe_lst (pa_cons (pe_cst T.m_NOT_NOW) pa_nil)))) pss_nil)
      (pss_cons (ps_set (i := 6) sc_do_tie.nd rfl (Or.inl rfl) (pe_lst (pa_cons pe_int pa_nil)))
      (pss_cons (ps_for PassesOwn.never rfl (pi_list (pe_c (ok_miss_of T) hr (pa_cons (pe_fld (pv 0) rfl) (pa_cons (pv 4) (pa_cons (pv 5) pa_nil))))) (pg_name (i := 7) sc_do_tie.nd rfl (Or.inl rfl))
      (pss_one (ps_expr (pe_bm PySem.F.plainAttrs_list PySem.F.slot_list_extend PySem.F.type_list_extend mt_extendX (pv 6) (pa_cons (pv 7) pa_nil)))))
      (pss_one (ps_ret (pv 6))))))))), ?_⟩
  obtain ⟨x0, x1, x2, rfl, h⟩ := h
  obtain ⟨la, na, ra, b, nums, rws, ras, c, F, rfl, rfl, rfl, hl, hna, hra, hrs, hsz, hc, h⟩ := h
  obtain ⟨n, rfl, rfl, rfl⟩ := sh1 (f := .tie) (.inr (.inr (.inl ⟨rfl, rfl⟩))) hc
  have hF := hl.sub
  have wf := hl.wf
  obtain ⟨dx, ba, pa, l1, l2, l3, ⟨L, lp1, lp2⟩, _⟩ := id hl
  have st : ChainSpec.step b (.tie n) = (b, match b.ties[n]? with
    | none => LsAns.says (-4)
    | some none => LsAns.says (-5)
    | some (some p) => LsAns.tells 0 (ChainSpec.frac p.1 ++ (ChainSpec.frac p.2 ++ ChainSpec.frac (square p)))) := rfl
  rw [st, ties_is wf] at h
  refine ⟨_, rfl, la, _, dx, _, _, rfl, l1, T.c_Land, T.a_Land_book, rfl, _, _, rfl, ba, b, 1, F, rfl, rfl, l3, hF, ?_⟩
  rintro _ H1 F1 g1 ⟨ml, ms, rfl, hml, hms⟩
  have hl1 := hl.gr g1
  have h1 := h.gr hl g1
  have lm : (rV ms).length = (metL b 1).length := by rw [rV_len, hms.len]
  have hml1 := g1.sub _ _ hml
  refine ⟨_, rfl, _, _, _, _, rfl, rfl, .of (g1.keep _ _ (hF _ _ hna)), atR0, _, rfl, _, _, rfl, .inl ⟨_, .of hml1, rfl⟩, _, _, rfl, rfl, _, rfl, ?_⟩
  by_cases c : (metL b 1).length ≤ n
  · rw [decide_eq_true (show (n : Int) ≥ ((rV ms).length : Int) by omega)]
    rw [List.getElem?_map, List.getElem?_eq_none c] at h1
    exact iteT ⟨(by show 1 ≤ sizeLine; decide), fun p hp => (h1.ret hl1).go (Same.refl _) hp⟩
  rw [decide_eq_false (show ¬ (n : Int) ≥ ((rV ms).length : Int) by omega)]
  obtain ⟨p, hpp⟩ : ∃ p, (metL b 1)[n]? = some p := ⟨_, List.getElem?_eq_getElem (by omega)⟩
  rw [List.getElem?_map, hpp] at h1
  simp only [Option.map_some] at h1
  obtain ⟨r, hr, hP⟩ := hms.get' hpp
  obtain ⟨la', ea, t1, t2, t3⟩ := hP
  have lp11 := g1.sub _ _ (g1.fr _ _ lp1)
  have hLH := lp2.imp (plR.mono (g1.fr.trans g1.sub))
  have l11 := g1.keep _ _ l1
  refine iteF ⟨_, rfl, _, rfl, _, _, _, _, rfl, rfl, .of (g1.keep _ _ (hF _ _ hna)), atR0, _, _, _, _, rfl, rfl, .of hml1, atI_nat (rV_at hr), ?_⟩
  refine ⟨r, _, rfl, .of (g1.sub _ _ t1), rfl, _, _, rfl, _, _, rfl, rfl, ?_⟩
  refine ⟨_, rfl, la, _, dx, _, _, rfl, l11, T.c_Land, T.a_Land_places, rfl, _, rfl, _, rfl, _, _, _, rfl, pa, la', ea, L, placing b.sets, p, rfl, rfl, rfl, lp11, hLH, t2.mono g1.sub, t3.mono g1.sub, _, rfl, ?_⟩
  rw [← tie_told]
  cases ct : tieOf (placing b.sets) p with
  | none =>
    rw [ct] at h1
    exact iteT ⟨(by show 1 ≤ sizeLine; decide), fun p hp => (h1.ret hl1).go (Same.refl _) hp⟩
  | some δ =>
    rw [ct] at h1
    simp only at h1
    refine iteF ⟨(by show 1 ≤ sizeLine; decide), fun A hA => ?_⟩
    have s2 : Same H1 (upd H1 A (.lst [.int 0])) := same_upd hA
    have hl2 := hl1.same s2
    have l12 := s2 _ _ l11
    refine ⟨_, rfl, la, _, dx, _, _, rfl, l12, T.c_Land, T.a_Land_places, rfl, _, rfl, _, rfl, _, _, _, rfl, pa, la', ea, L, placing b.sets, p, δ, rfl, rfl, rfl, s2 _ _ lp11, hLH.imp (plR.mono s2), t2.mono (g1.sub.trans s2), t3.mono (g1.sub.trans s2), met_wf wf (List.mem_of_getElem? hpp), ct, fun z H3 as hz s3 e3 f3 sm => ?_⟩
    have s13 := s2.trans s3
    have a3 : H3 A = some (.lst [.int 0]) := s3 _ _ upd_same
    have nz : z ≠ A := fun q => by
      rw [q, upd_same] at hz
      cases hz
    generalize hds : [δ.1, δ.2, square δ] = ds at f3 sm
    have lds : ds.length = 3 := by rw [← hds]; rfl
    have las : (rV as).length = 3 := by rw [rV_len, f3.len, lds]
    have fl : ∀ j, ((ds.take j).flatMap ChainSpec.frac).length ≤ 6 := fun j => by
      have : ∀ l : List Rat, (l.flatMap ChainSpec.frac).length = 2 * l.length := fun l => by
        induction l with
        | nil => rfl
        | cons q l ih =>
          rw [List.flatMap_cons, List.length_append, ih, List.length_cons]
          show 2 + _ = _
          omega
      rw [this, List.length_take]
      omega
    refine ⟨z, rfl, ⟨_, .of e3⟩, for_list (K := K) (a := z) (xs := rV as) (fun j σ H' => ∃ v, σ = [some (.ref la), some (.ref na), some (.ref ra), some (.ref ml), some (.ref la'), some (.ref ea), some (.ref A), v] ∧ H' A = some (.lst (iV (0 :: (ds.take j).flatMap ChainSpec.frac))) ∧ Same H1 H' ∧ (∀ a o, H3 a = some o → a ≠ A → H' a = some o)) ⟨none, rfl, a3, s13, fun _ _ e _ => e⟩ ?_ ?_ ?_⟩
    · rintro j σ H' _ ⟨v, rfl, hA', sH, ot⟩
      exact .of (ot _ _ e3 nz)
    · rintro j x σ H' hx ⟨v, rfl, hA', sH, ot⟩
      obtain ⟨q, hq, rfl⟩ := rV_get hx
      obtain ⟨d, hd, hq2⟩ := f3.get hq
      have qA : q ≠ A := fun z => by
        rw [z] at hq2
        have := a3.symm.trans hq2
        cases this
      refine ⟨_, rfl, .inl ⟨rfl, _, SqL.of hA'⟩, _, rfl, A, q, _, _, rfl, rfl, hA', .inr (.of (ot _ _ hq2 qA)), ?_, _, rfl, ?_, ?_, ?_⟩
      · show (iV _).length + 2 ≤ _
        unfold iV
        rw [List.length_map, List.length_cons]
        have := fl j
        exact size_ok (by omega)
      · rw [upd_same, flat_snoc hd, ← List.cons_append, ← iV_app]
        rfl
      · exact same_mut sH hA
      · intro a o e n
        rw [upd_ne n]
        exact ot a o e n
    · rintro σ H' ⟨v, rfl, hA', sH, ot⟩
      rw [las, ← lds, List.take_length] at hA'
      refine ⟨_, rfl, (h1.ret hl1) _ _ hA sH ?_⟩
      rw [told_tells, hA', ← hds]
      rfl
end
end CB
end
section
set_option Elab.async false
set_option linter.all false
set_option maxRecDepth 100000
set_option maxHeartbeats 4000000
namespace CB
theorem shape_in {p : Int} {n k : Nat} (h : PyWrmpch.shape p = some (n, k)) : (p, (n : Int), (k : Int)) ∈ formsL ∧ n ≤ 2 ∧ k ≤ 1 := by
  unfold PyWrmpch.shape at h
  by_cases c1 : p = 1
  · rw [if_pos c1] at h
    cases h
    rw [c1]
    exact ⟨by decide, by decide, by decide⟩
  rw [if_neg c1] at h
  by_cases c2 : p = 2
  · rw [if_pos c2] at h
    cases h
    rw [c2]
    exact ⟨by decide, by decide, by decide⟩
  rw [if_neg c2] at h
  by_cases c3 : p = 3
  · rw [if_pos c3] at h
    cases h
    rw [c3]
    exact ⟨by decide, by decide, by decide⟩
  rw [if_neg c3] at h
  by_cases c4 : p = 4
  · rw [if_pos c4] at h
    cases h
    rw [c4]
    exact ⟨by decide, by decide, by decide⟩
  rw [if_neg c4] at h
  by_cases c5 : p = 5
  · rw [if_pos c5] at h
    cases h
    rw [c5]
    exact ⟨by decide, by decide, by decide⟩
  rw [if_neg c5] at h
  by_cases c6 : p = 6
  · rw [if_pos c6] at h
    cases h
    rw [c6]
    exact ⟨by decide, by decide, by decide⟩
  rw [if_neg c6] at h
  by_cases c7 : p = 7
  · rw [if_pos c7] at h
    cases h
    rw [c7]
    exact ⟨by decide, by decide, by decide⟩
  rw [if_neg c7] at h
  by_cases c8 : p = 8
  · rw [if_pos c8] at h
    cases h
    rw [c8]
    exact ⟨by decide, by decide, by decide⟩
  rw [if_neg c8] at h
  by_cases c9 : p = 9
  · rw [if_pos c9] at h
    cases h
    rw [c9]
    exact ⟨by decide, by decide, by decide⟩
  rw [if_neg c9] at h
  by_cases c10 : p = 10
  · rw [if_pos c10] at h
    cases h
    rw [c10]
    exact ⟨by decide, by decide, by decide⟩
  rw [if_neg c10] at h
  by_cases c11 : p = 11
  · rw [if_pos c11] at h
    cases h
    rw [c11]
    exact ⟨by decide, by decide, by decide⟩
  rw [if_neg c11] at h
  by_cases c12 : p = 12
  · rw [if_pos c12] at h
    cases h
    rw [c12]
    exact ⟨by decide, by decide, by decide⟩
  rw [if_neg c12] at h
  by_cases c13 : p = 13
  · rw [if_pos c13] at h
    cases h
    rw [c13]
    exact ⟨by decide, by decide, by decide⟩
  rw [if_neg c13] at h
  by_cases c14 : p = 14
  · rw [if_pos c14] at h
    cases h
    rw [c14]
    exact ⟨by decide, by decide, by decide⟩
  rw [if_neg c14] at h
  by_cases c15 : p = 15
  · rw [if_pos c15] at h
    cases h
    rw [c15]
    exact ⟨by decide, by decide, by decide⟩
  rw [if_neg c15] at h
  by_cases c16 : p = 16
  · rw [if_pos c16] at h
    cases h
    rw [c16]
    exact ⟨by decide, by decide, by decide⟩
  rw [if_neg c16] at h
  cases h
theorem drop_inj {l : List Int} {a b : Nat} (ha : a ≤ l.length) (hb : b ≤ l.length) (h : l.drop a = l.drop b) : a = b := by
  have := congrArg List.length h
  rw [List.length_drop, List.length_drop] at this
  omega
theorem drop_head {l : List Int} {a : Nat} {x : Int} {r : List Int} (h : l.drop a = x :: r) : l[a]? = some x ∧ r = l.drop (a + 1) ∧ a < l.length := by
  have h1 : a < l.length := by
    have := congrArg List.length h
    rw [List.length_drop, List.length_cons] at this
    omega
  rw [List.drop_eq_getElem_cons h1] at h
  injection h with e1 e2
  exact ⟨by rw [← e1]; exact List.getElem?_eq_getElem h1, e2.symm, h1⟩
structure Parts (l : List Int) (at_ behind : Nat) (p : Int) (nums : List Int) (rws : List (List Int)) (n k : Nat) : Prop where
  lt : at_ < l.length
  key : l[at_]? = some p
  sh : PyWrmpch.shape p = some (n, k)
  fit : at_ + 1 + n ≤ l.length
  nums_ : nums = (l.drop (at_ + 1)).take n
  zero : k = 0 → rws = [] ∧ behind = at_ + 1 + n
  one : k = 1 → ∃ c : Nat, l[at_ + 1 + n]? = some (c : Int) ∧ behind = at_ + 1 + n + 1 + c ∧ rws = [(l.drop (at_ + 1 + n + 1)).take c]
theorem call_parts {l : List Int} {at_ behind : Nat} {p : Int} {nums : List Int} {rws : List (List Int)} (hat : at_ ≤ l.length) (hbe : behind ≤ l.length) (h : PyFlat.call PyWrmpch.shape (l.drop at_) = some ((p :: nums) :: rws, l.drop behind)) :
    ∃ n k, Parts l at_ behind p nums rws n k := by
  cases hd : l.drop at_ with
  | nil =>
    rw [hd] at h
    cases h
  | cons x r =>
    rw [hd] at h
    obtain ⟨k1, k2, k3⟩ := drop_head hd
    unfold PyFlat.call at h
    simp only at h
    cases hs : PyWrmpch.shape x with
    | none =>
      rw [hs] at h
      cases h
    | some nk =>
      obtain ⟨n, k⟩ := nk
      rw [hs] at h
      simp only at h
      split at h
      · cases h
      · rename_i hn
        obtain ⟨i1, i2, i3⟩ := shape_in hs
        have rl : r.length = l.length - (at_ + 1) := by rw [k2, List.length_drop]
        have rd : r.drop n = l.drop (at_ + 1 + n) := by rw [k2, List.drop_drop]
        have ft : at_ + 1 + n ≤ l.length := by omega
        cases hr : PyFlat.rows k (r.drop n) with
        | none =>
          rw [hr] at h
          cases h
        | some xt =>
          obtain ⟨xs, t⟩ := xt
          rw [hr] at h
          simp only [Option.some.injEq, Prod.mk.injEq, List.cons.injEq] at h
          obtain ⟨⟨⟨rfl, rfl⟩, rfl⟩, rfl⟩ := h
          refine ⟨n, k, k3, k1, hs, ft, by rw [k2], fun k0 => ?_, fun k0 => ?_⟩
          · subst k0
            have hr' : some (([] : List (List Int)), r.drop n) = some (xs, l.drop behind) := hr
            injection hr' with hr'
            injection hr' with e1 e2
            rw [rd] at e2
            exact ⟨e1.symm, (drop_inj ft hbe e2).symm⟩
          · subst k0
            rw [rd] at hr
            unfold PyFlat.rows at hr
            cases hq : l.drop (at_ + 1 + n) with
            | nil =>
              rw [hq] at hr
              cases hr
            | cons c r2 =>
              obtain ⟨j1, j2, j3⟩ := drop_head hq
              rw [hq] at hr
              unfold PyFlat.row at hr
              by_cases hc : 0 ≤ c ∧ c.toNat ≤ r2.length
              · simp only [if_pos hc] at hr
                have hr' : some ([r2.take c.toNat], r2.drop c.toNat) = some (xs, l.drop behind) := hr
                injection hr' with hr'
                injection hr' with e1 e2
                have r2l : r2.length = l.length - (at_ + 1 + n + 1) := by rw [j2, List.length_drop]
                have e3 : r2.drop c.toNat = l.drop (at_ + 1 + n + 1 + c.toNat) := by rw [j2, List.drop_drop]
                rw [e3] at e2
                refine ⟨c.toNat, by rw [j1, Int.toNat_of_nonneg hc.1], (drop_inj (by omega) hbe e2).symm, ?_⟩
                rw [← e1, j2]
              · simp only [if_neg hc] at hr
                cases hr
end CB
end
section
set_option Elab.async false
set_option linter.all false
set_option maxRecDepth 100000
set_option maxHeartbeats 4000000
namespace CB
theorem rows_drop : ∀ {k : Nat} {s : List Int} {xs : List (List Int)} {t : List Int}, PyFlat.rows k s = some (xs, t) → ∃ j, j ≤ s.length ∧ t = s.drop j
  | 0, s, xs, t, h => by
    have h' : some (([] : List (List Int)), s) = some (xs, t) := h
    injection h' with h'
    injection h' with e1 e2
    exact ⟨0, Nat.zero_le _, e2.symm⟩
  | k + 1, s, xs, t, h => by
    cases s with
    | nil => cases h
    | cons c r =>
      unfold PyFlat.rows PyFlat.row at h
      by_cases hc : 0 ≤ c ∧ c.toNat ≤ r.length
      · simp only [if_pos hc] at h
        cases hr : PyFlat.rows k (r.drop c.toNat) with
        | none =>
          rw [hr] at h
          cases h
        | some y =>
          obtain ⟨ys, u⟩ := y
          rw [hr] at h
          have h' : some (r.take c.toNat :: ys, u) = some (xs, t) := h
          injection h' with h'
          injection h' with e1 e2
          obtain ⟨j, j1, j2⟩ := rows_drop hr
          rw [List.length_drop] at j1
          refine ⟨c.toNat + j + 1, by rw [List.length_cons]; omega, ?_⟩
          rw [← e2, j2, List.drop_drop, List.drop_succ_cons]
      · simp only [if_neg hc] at h
        cases h
theorem call_drop {l : List Int} {at_ : Nat} {c : List (List Int)} {t : List Int} (hat : at_ < l.length) (h : PyFlat.call PyWrmpch.shape (l.drop at_) = some (c, t)) :
    ∃ p nums rws behind, c = (p :: nums) :: rws ∧ at_ < behind ∧ behind ≤ l.length ∧ t = l.drop behind := by
  cases hd : l.drop at_ with
  | nil =>
    rw [hd] at h
    cases h
  | cons x r =>
    rw [hd] at h
    obtain ⟨k1, k2, k3⟩ := drop_head hd
    unfold PyFlat.call at h
    simp only at h
    cases hs : PyWrmpch.shape x with
    | none =>
      rw [hs] at h
      cases h
    | some nk =>
      obtain ⟨n, k⟩ := nk
      rw [hs] at h
      simp only at h
      split at h
      · cases h
      · rename_i hn
        cases hr : PyFlat.rows k (r.drop n) with
        | none =>
          rw [hr] at h
          cases h
        | some xt =>
          obtain ⟨xs, t'⟩ := xt
          rw [hr] at h
          have h' : some ((x :: r.take n) :: xs, t') = some (c, t) := h
          injection h' with h'
          injection h' with e1 e2
          obtain ⟨j, j1, j2⟩ := rows_drop hr
          rw [List.length_drop] at j1
          have rl : r.length = l.length - (at_ + 1) := by rw [k2, List.length_drop]
          refine ⟨x, r.take n, xs, at_ + 1 + n + j, e1.symm, by omega, by omega, ?_⟩
          rw [← e2, j2, k2, List.drop_drop, List.drop_drop]
          congr 1
          omega
theorem next_call {l : List Int} {at_ f : Nat} {rest : List (List (List Int))} (hat : at_ < l.length) (h : PyFlat.calls PyWrmpch.shape f (l.drop at_) = some rest) :
    ∃ p nums rws behind f' rest', rest = ((p :: nums) :: rws) :: rest' ∧ at_ < behind ∧ behind ≤ l.length ∧ PyFlat.call PyWrmpch.shape (l.drop at_) = some ((p :: nums) :: rws, l.drop behind) ∧ PyFlat.calls PyWrmpch.shape f' (l.drop behind) = some rest' := by
  cases hd : l.drop at_ with
  | nil =>
    have := congrArg List.length hd
    rw [List.length_drop] at this
    simp only [List.length_nil] at this
    omega
  | cons x r =>
    rw [hd] at h
    cases f with
    | zero => cases h
    | succ f =>
      unfold PyFlat.calls at h
      cases hc : PyFlat.call PyWrmpch.shape (x :: r) with
      | none =>
        rw [hc] at h
        cases h
      | some ct =>
        obtain ⟨c, t⟩ := ct
        rw [hc] at h
        simp only at h
        cases hr : PyFlat.calls PyWrmpch.shape f t with
        | none =>
          rw [hr] at h
          cases h
        | some cs =>
          rw [hr] at h
          rw [← hd] at hc
          obtain ⟨p, nums, rws, behind, e1, e2, e3, e4⟩ := call_drop hat hc
          refine ⟨p, nums, rws, behind, f, cs, by rw [← e1]; exact (Option.some.inj h).symm, e2, e3, by rw [e1, e4], by rw [← e4]; exact hr⟩
theorem no_call {l : List Int} {f : Nat} {rest : List (List (List Int))} (h : PyFlat.calls PyWrmpch.shape f (l.drop l.length) = some rest) : rest = [] := by
  rw [List.drop_length] at h
  cases f <;> exact (Option.some.inj h).symm
theorem whole_is (c : List (List Int)) : PyWrmpch.whole c = c := by
  unfold PyWrmpch.whole
  split <;> rfl
/-- what's told of the calls left -/
def toldOf (b : ChainNeutral.S) (cs : List (List (List Int))) : List Int := PyFlat.told (PyFlat.played ChainNeutral.step b cs)
theorem toldOf_cons (b : ChainNeutral.S) (c : List (List Int)) (cs : List (List (List Int))) : toldOf b (c :: cs) = (((ChainNeutral.step b c).2.length : Int) :: (ChainNeutral.step b c).2) ++ toldOf (ChainNeutral.step b c).1 cs := rfl
theorem asked_start {l : List Int} (h : PyWrmpch.answers_asked l = true) : ∃ raw, PyFlat.calls PyWrmpch.shape l.length l = some raw ∧ PyInside.calls PyWrmpch.bound raw = true ∧ ChainNeutral.asked raw = true ∧ PyWrmpch.answers l = toldOf LsChain.empty raw ∧ (PyWrmpch.answers l).length ≤ 10000000 := by
  unfold PyWrmpch.answers_asked at h
  cases hc : PyFlat.calls PyWrmpch.shape l.length l with
  | none =>
    rw [hc] at h
    cases h
  | some raw =>
    rw [hc] at h
    simp only [Bool.and_eq_true] at h
    obtain ⟨⟨⟨h1, h2⟩, h3⟩, h4⟩ := h
    have e : raw.map PyWrmpch.whole = raw := by
      rw [show PyWrmpch.whole = id from funext whole_is, List.map_id]
    rw [e] at h3
    refine ⟨raw, rfl, h2, h3, ?_, of_decide_eq_true h4⟩
    unfold PyWrmpch.answers PyWrmpch.calls
    rw [hc]
    simp only
    rw [e]
    rfl
theorem bound_one {p : Int} {n : Nat} (h : PyWrmpch.shape p = some (n, 1)) : (PyWrmpch.bound p).2 = [(0, 255, 0, 31700)] := by
  have h1 := (shape_in h).1
  unfold formsL at h1
  simp only [List.mem_cons, Prod.mk.injEq, List.mem_nil_iff, or_false] at h1
  rcases h1 with h1 | h1 | h1 | h1 | h1 | h1 | h1 | h1 | h1 | h1 | h1 | h1 | h1 | h1 | h1 | h1 <;> first
    | (exact absurd h1.2.2 (by decide))
    | (rw [h1.1]; rfl)
theorem inside_row {p : Int} {nums r : List Int} {n : Nat} (h : PyInside.call PyWrmpch.bound ((p :: nums) :: [r]) = true) (hs : PyWrmpch.shape p = some (n, 1)) : r.length ≤ 1000000 := by
  have h1 : (PyInside.each (PyWrmpch.bound p).1 nums && PyInside.lists (PyWrmpch.bound p).2 [r]) = true := h
  rw [bound_one hs] at h1
  have h2 := (Bool.and_eq_true_iff.mp h1).2
  have h3 : (decide (0 ≤ r.length) && decide (r.length ≤ 31700) && r.all (PyInside.within 0 255) && PyInside.lists [] []) = true := h2
  simp only [Bool.and_eq_true, decide_eq_true_eq] at h3
  omega
end CB
end
section
set_option Elab.async false
set_option linter.all false
set_option maxRecDepth 100000
set_option maxHeartbeats 4000000
namespace CB
open PySem PySem.Spec PyProof.Rows L2
/-! ### a dict of the module, whole numbers as keys -/
def IDct (K : PySem.W.Frag) (a : Addr) (x : Int) (v : V) : Prop := ∃ es n u, K.lookup a = some ⟨.type "dict", none, .dict es n, #[]⟩ ∧ es.toList.all intKey = true ∧ findBy Value.isInt es x = some u ∧ RelV v u
def rIxI (K : PySem.W.Frag) : R2 := fun x y H Q => ∃ p z v, x = .ref p ∧ y = .int z ∧ IDct K p z v ∧ Q v H
theorem intKeys {P : Program} {w : World} {es : Array DictEntry} (h : es.toList.all intKey = true) : KeysOf (intKind P w) es := fun e he => by
  have h1 := List.all_eq_true.mp h e (Array.mem_toList_iff.mpr he)
  unfold intKey at h1
  split at h1
  · rename_i i t ek
    exact ⟨i, by rw [ek]; exact intKind_is P w i t, of_decide_eq_true h1⟩
  · cases h1
section
variable {X : Cx}
theorem ix_idct : IxR X (rIxI X.K) := by
  intro value slice pins s σ H x y v u Q I rx ry h hs
  obtain ⟨p, z, r, rfl, rfl, ⟨es, n, u0, hl, hk, e, ru⟩, q⟩ := h
  obtain rfl : v = Value.ref p := rx
  obtain ⟨t, rfl⟩ := ry
  have hm : s.heap.MapOf (intKind X.prog X.w) p (fun k => findBy Value.isInt es k) := ⟨_, es, n, I.kIn _ _ hl, ⟨rfl, rfl, rfl⟩, rfl, intKeys hk, fun _ => rfl⟩
  exact tail_any hm.typeIs slot_dict_getitem.lookup (wpAny_getItem_of (intKind_is X.prog X.w z t) hm e ⟨r, H, I.tok _, ru, q⟩) hs
end
theorem idic_ok {K : PySem.W.Frag} {a : Addr} {f : Array DictEntry → Bool} (h : xIdic K a f = true) : ∃ es n, K.lookup a = some ⟨.type "dict", none, .dict es n, #[]⟩ ∧ es.toList.all intKey = true ∧ f es = true := by
  unfold xIdic at h
  split at h
  · rename_i t es n sl ho
    obtain ⟨h1, g⟩ := He.ba h
    obtain ⟨h2, g⟩ := He.ba g
    obtain ⟨h3, g⟩ := He.ba g
    obtain ⟨h4, h5⟩ := He.ba g
    have e1 : t = "dict" := of_decide_eq_true h1
    have e2 : sl = #[] := Array.toList_inj.mp (List.length_eq_zero_iff.mp (of_decide_eq_true h2))
    rw [e1, e2] at ho
    exact ⟨es, n, ho, h4, h5⟩
  · cases h
section
variable {K : PySem.W.Frag} {mg : Str → Option Value}
theorem Txt.formsX (T : Txt K mg) : xIdic K (He.ga K "FORMS") (xForms K) = true := (He.ba (He.ba T.y).2).1
theorem Txt.deedsX (T : Txt K mg) : xIdic K (He.ga K "DEEDS") (xDeeds K) = true := (He.ba (He.ba (He.ba T.y).2).2).1
theorem Txt.dist (T : Txt K mg) : (deedsL.map fun x => He.fAd K (x.2, none)).Nodup := of_decide_eq_true (He.ba (He.ba (He.ba T.y).2).2).2
theorem xTup_ok {p : Addr} {vs : List V} (h : xTup K p vs = true) (H : Hp) : SqT K H p vs := by
  unfold xTup at h
  split at h
  · rename_i c dd its n sl q
    obtain ⟨h1, h2⟩ := He.ba h
    obtain ⟨h3, h4⟩ := He.ba h2
    exact .inr ⟨_, its, n, q, congrArg Value.type (of_decide_eq_true h1), rfl, of_decide_eq_true h3, He.relAll_ok h4⟩
  · cases h
/-- a call's form -/
theorem Txt.form (T : Txt K mg) {k m r : Int} (h : (k, m, r) ∈ formsL) (H : Hp) : ∃ p, IDct K (He.ga K "FORMS") k (.ref p) ∧ SqT K H p [.int m, .int r] := by
  obtain ⟨es, n, e1, e2, e3⟩ := idic_ok T.formsX
  have h1 := List.all_eq_true.mp e3 _ h
  simp only at h1
  split at h1
  · rename_i p hf
    exact ⟨p, ⟨es, n, _, e1, e2, hf, rfl⟩, xTup_ok h1 H⟩
  · cases h1
theorem Txt.deed (T : Txt K mg) {k : Int} {x : Str} (h : (k, x) ∈ deedsL) : IDct K (He.ga K "DEEDS") k (.ref (He.fAd K (x, none))) := by
  obtain ⟨es, n, e1, e2, e3⟩ := idic_ok T.deedsX
  have h1 := List.all_eq_true.mp e3 _ h
  exact ⟨es, n, _, e1, e2, of_decide_eq_true h1, rfl⟩
end
/-! ### the deeds by their addresses -/
section
variable {P : Program} {w : World} {K : PySem.W.Frag} {mg : Str → Option Value} {base : Heap}
theorem map_inj {α β : Type} {f : α → β} : ∀ {l : List α}, (l.map f).Nodup → ∀ {a b : α}, a ∈ l → b ∈ l → f a = f b → a = b
  | x :: l, h, a, b, ha, hb, e => by
    rw [List.map_cons, List.nodup_cons] at h
    rcases List.mem_cons.mp ha with ea | ha'
    · rcases List.mem_cons.mp hb with eb | hb'
      · rw [ea, eb]
      · rw [ea] at e
        exact absurd (List.mem_map.mpr ⟨b, hb', e.symm⟩) h.1
    · rcases List.mem_cons.mp hb with eb | hb'
      · rw [eb] at e
        exact absurd (List.mem_map.mpr ⟨a, ha', e⟩) h.1
      · exact map_inj h.2 ha' hb' e
/-- the deed that stands at f -/
def deedSp (K : PySem.W.Frag) (f : Addr) : Option Sp := (deedsL.find? fun x => He.fAd K (x.2, none) == f).map fun x => spDeed K x.1
theorem deedSp_at (T : Txt K mg) {k : Int} {x : Str} (h : (k, x) ∈ deedsL) : deedSp K (He.fAd K (x, none)) = some (spDeed K k) := by
  unfold deedSp
  cases c : deedsL.find? fun y => He.fAd K (y.2, none) == He.fAd K (x, none) with
  | none => exact absurd (by simp) (List.find?_eq_none.mp c _ h)
  | some y =>
    have e1 := List.find?_some c
    have e2 := List.mem_of_find?_eq_some c
    have e3 : y = (k, x) := map_inj (f := fun x : Int × Str => He.fAd K (x.2, none)) T.dist e2 h (beq_iff_eq.mp e1)
    rw [e3]
    rfl
theorem held_of {k : Nat} {nm : Str × Option Str} {ps : List Str} {sp : Sp} (O : Ok P w K mg base CX0 k nm ps sp) (hk : k ≤ 14 := by decide) : Held P w K mg base 14 (He.fAd K nm) sp := by
  obtain ⟨fd, F, b⟩ := O.ex
  exact ⟨fd, ps, F.mono hk, O.kp, b⟩
theorem deeds_held (T : Txt K mg) : ∀ f sp, deedSp K f = some sp → Held P w K mg base 14 f sp := by
  intro f sp h
  unfold deedSp at h
  cases c : deedsL.find? fun y => He.fAd K (y.2, none) == f with
  | none =>
    rw [c] at h
    cases h
  | some y =>
    rw [c] at h
    have e0 : spDeed K y.1 = sp := Option.some.inj h
    have e1 : He.fAd K (y.2, none) = f := beq_iff_eq.mp (List.find?_some (p := fun y : Int × Str => He.fAd K (y.2, none) == f) c)
    have e2 := List.mem_of_find?_eq_some c
    rw [← e0, ← e1]
    clear h e0 e1 c
    unfold deedsL at e2
    rcases List.mem_cons.mp e2 with rfl | e2
    · exact held_of (ok_do_book T)
    rcases List.mem_cons.mp e2 with rfl | e2
    · exact held_of (ok_do_more T)
    rcases List.mem_cons.mp e2 with rfl | e2
    · exact held_of (ok_do_print T)
    rcases List.mem_cons.mp e2 with rfl | e2
    · exact held_of (ok_do_count T)
    rcases List.mem_cons.mp e2 with rfl | e2
    · exact held_of (ok_do_where T)
    rcases List.mem_cons.mp e2 with rfl | e2
    · exact held_of (ok_do_ground T)
    rcases List.mem_cons.mp e2 with rfl | e2
    · exact held_of (ok_do_hangs T)
    rcases List.mem_cons.mp e2 with rfl | e2
    · exact held_of (ok_do_lacking T)
    rcases List.mem_cons.mp e2 with rfl | e2
    · exact held_of (ok_do_feature T)
    rcases List.mem_cons.mp e2 with rfl | e2
    · exact held_of (ok_do_rounded T)
    rcases List.mem_cons.mp e2 with rfl | e2
    · exact held_of (ok_do_tie T)
    rcases List.mem_cons.mp e2 with rfl | e2
    · exact held_of (ok_do_worst_tie T)
    rcases List.mem_cons.mp e2 with rfl | e2
    · exact held_of (ok_do_stretch T)
    rcases List.mem_cons.mp e2 with rfl | e2
    · exact held_of (ok_do_worst_line T)
    rcases List.mem_cons.mp e2 with rfl | e2
    · exact held_of (ok_do_move T)
    rcases List.mem_cons.mp e2 with rfl | e2
    · exact held_of (ok_do_strike T)
    cases e2
end
end CB
end
section
set_option Elab.async false
set_option linter.all false
set_option maxRecDepth 100000
set_option maxHeartbeats 4000000
namespace CB
open PySem PySem.Spec PyProof.Rows L2
/-! ### the desk -/
theorem sqL_mono {K : PySem.W.Frag} {H H' : Hp} {a : Addr} {xs : List V} (h : SqL K H a xs) (s : Same H H') : SqL K H' a xs := by
  rcases h with h | h
  · rcases h with h | ⟨o, h⟩
    · exact .inl (.inl (s _ _ h))
    · exact .inl (.inr ⟨o, s _ _ h⟩)
  · exact .inr h
def spCallFrom (K : PySem.W.Frag) : Sp := sp2 fun x y H Q _ => ∃ (ca : Addr) (l : List Int) (at_ behind : Nat) (p : Int) (nums : List Int) (rws : List (List Int)) (F : Hp), x = .ref ca ∧ y = .int (at_ : Int) ∧ SqL K H ca (iV l) ∧ Same F H ∧ at_ ≤ l.length ∧ behind ≤ l.length ∧
  PyFlat.call PyWrmpch.shape (l.drop at_) = some ((p :: nums) :: rws, l.drop behind) ∧
  ∀ H2 F2 t na ra ras, Gr H F H2 F2 → H2 t = some (.tup [.ref na, .ref ra, .int (behind : Int)]) → F2 na = some (.lst (iV nums)) → F2 ra = some (.lst (rV ras)) → All2 (fun a r => F2 a = some (.lst (iV r))) ras rws → Q (.ref t) H2
def spAnswers (K : PySem.W.Frag) : Sp := sp1 fun x H Q _ => ∃ (ca : Addr) (l : List Int), x = .ref ca ∧ SqL K H ca (iV l) ∧ PyWrmpch.answers_asked l = true ∧ ∀ p H2, H2 p = some (.lst (iV (PyWrmpch.answers l))) → Q (.ref p) H2
section
variable {P : Program} {w : World} {K : PySem.W.Frag} {mg : Str → Option Value} {base : Heap}
theorem ok_call_from (T : Txt K mg) : Ok P w K mg base CX0 1 ("call_from", none) ["calls", "at"] (spCallFrom K) := by
  refine mk_ok T 110 rfl sc_call_from T.g_call_from (fun _ _ _ _ _ _ us hl => match us, hl with | [_, _], _ => rfl) len2 (fun cdv A outer s H vs Q E hr h => ?_)
  refine ⟨_, (pss_cons (ps_asg (pe_ix ix_idct (pe_gref T.g_FORMS) (pe_ix ix_list (pv 0) (pv 1) (fun _ _ => rfl)) (fun _ _ => rfl)) (pg_tup (by rfl) (pgs_cons (pg_name (i := 2) sc_call_from.nd rfl (Or.inl rfl)) (pgs_cons (pg_name (i := 3) sc_call_from.nd rfl (Or.inl rfl)) pgs_nil))))
      (pss_cons (ps_set (i := 4) sc_call_from.nd rfl (Or.inl rfl) (pe_op op_add (pe_op op_add (pv 1) pe_int) (pv 2)))
      (pss_cons (ps_set (i := 5) sc_call_from.nd rfl (Or.inl rfl) (pe_slice sl_list (pv 0) (po_some (pe_op op_add (pv 1) pe_int)) (po_some (pv 4))))
      (pss_cons (ps_set (i := 6) sc_call_from.nd rfl (Or.inl rfl) (pe_lst pa_nil))
      (pss_cons (ps_for PassesOwn.never rfl (pi_range1 rfl T.n_range (pa_cons (pv 3) pa_nil)) (pg_name (i := 7) sc_call_from.nd rfl (Or.inl rfl))
      (pss_cons (ps_set (i := 8) sc_call_from.nd rfl (Or.inl rfl) (pe_op op_add (pv 4) pe_int))
      (pss_cons (ps_set (i := 4) sc_call_from.nd rfl (Or.inl rfl) (pe_op op_add (pv 8) (pe_ix ix_list (pv 0) (pv 4) (fun _ _ => rfl))))
      (pss_one (ps_expr (pe_bm PySem.F.plainAttrs_list PySem.F.slot_list_append PySem.F.type_list_append mt_append (pv 6) (pa_cons (pe_slice sl_list (pv 0) (po_some (pv 8)) (po_some (pv 4))) pa_nil)))))))
      (pss_one (ps_ret (pe_tup (pa_cons (pv 5) (pa_cons (pv 6) (pa_cons (pv 4) pa_nil))))))))))), ?_⟩
  obtain ⟨x0, x1, rfl, h⟩ := h
  obtain ⟨ca, l, at_, behind, p, nums, rws, F, rfl, rfl, hca, hF, hat, hbe, hcall, h⟩ := h
  obtain ⟨n, k, hp⟩ := call_parts hat hbe hcall
  obtain ⟨i1, i2, i3⟩ := shape_in hp.sh
  have hkey : (iV l)[at_]? = some (.int p) := by
    unfold iV
    rw [List.getElem?_map, hp.key]
    rfl
  obtain ⟨fp, d1, d2⟩ := T.form i1 H
  refine ⟨_, rfl, _, rfl, _, _, _, _, rfl, rfl, hca, atI_nat hkey, _, _, _, rfl, rfl, d1, ?_⟩
  refine ⟨fp, _, rfl, d2, rfl, _, _, rfl, _, _, rfl, rfl, ?_⟩
  have cut1 : cutV (iV l) (some ((at_ : Int) + 1)) (some ((at_ : Int) + 1 + (n : Int))) = iV nums := by
    rw [show ((at_ : Int) + 1) = ((at_ + 1 : Nat) : Int) by omega, show (((at_ + 1 : Nat) : Int) + (n : Int)) = ((at_ + 1 + n : Nat) : Int) by omega]
    unfold iV
    rw [cutV_cut _ (by have := hp.fit; omega) hp.fit, hp.nums_, show at_ + 1 + n - (at_ + 1) = n by omega]
  refine ⟨_, rfl, _, _, rfl, rfl, _, rfl, _, _, rfl, rfl, ?_⟩
  refine ⟨_, rfl, _, rfl, _, _, rfl, rfl, _, rfl, _, rfl, _, rfl, _, _, rfl, hca, fun na hna => ?_⟩
  rw [cut1]
  have g1 : Gr H F (upd H na (.lst (iV nums))) (upd F na (.lst (iV nums))) := (Gr.refl hF).put hna
  generalize hH1 : upd H na (.lst (iV nums)) = H1 at g1
  generalize hF1 : upd F na (.lst (iV nums)) = F1 at g1
  have eN : F1 na = some (.lst (iV nums)) := by rw [← hF1]; exact upd_same
  refine ⟨(by show 0 ≤ sizeLine; decide), fun ra hra => ?_⟩
  have g2 : Gr H1 F1 (upd H1 ra (.lst [])) F1 := (Gr.refl g1.sub).add hra
  have o2 : Own H1 (upd H1 ra (.lst [])) F1 ra (.lst (rV [])) := Own.first (Gr.refl g1.sub) hra
  have small : k < 2 ^ 62 := Nat.lt_of_le_of_lt i3 (by decide)
  refine ⟨_, rfl, (k : Int), rfl, by omega, by omega, for_range (lo := 0) (n := (k : Int).toNat) (fun i σ H' => ∃ F2 bi as v u, σ = [some (.ref ca), some (.int (at_ : Int)), some (.int (n : Int)), some (.int (k : Int)), some (.int bi), some (.ref na), some (.ref ra), v, u] ∧ Gr H1 F1 H' F2 ∧ Own H1 H' F2 ra (.lst (rV as)) ∧
    ((i = 0 ∧ bi = ((at_ + 1 + n : Nat) : Int) ∧ as = []) ∨ (i = 1 ∧ bi = (behind : Int) ∧ All2 (fun a r => F2 a = some (.lst (iV r))) as rws))) ⟨F1, _, [], none, none, rfl, g2, o2, .inl ⟨rfl, by omega, rfl⟩⟩ ?_ ?_⟩
  · rintro i σ H' hi ⟨F2, bi, as, v, u, rfl, g, o, hc⟩
    have k1 : k = 1 := by omega
    have i0 : i = 0 := by omega
    rcases hc with ⟨_, rfl, rfl⟩ | ⟨z, _⟩
    rotate_left
    · omega
    obtain ⟨c, c1, c2, c3⟩ := hp.one k1
    have hcc : (iV l)[at_ + 1 + n]? = some (.int (c : Int)) := by
      unfold iV
      rw [List.getElem?_map, c1]
      rfl
    have hca' : SqL K H' ca (iV l) := sqL_mono hca (g1.keep.trans g.keep)
    have cut2 : cutV (iV l) (some (((at_ + 1 + n : Nat) : Int) + 1)) (some (((at_ + 1 + n : Nat) : Int) + 1 + (c : Int))) = iV ((l.drop (at_ + 1 + n + 1)).take c) := by
      rw [show (((at_ + 1 + n : Nat) : Int) + 1) = ((at_ + 1 + n + 1 : Nat) : Int) by omega, show (((at_ + 1 + n + 1 : Nat) : Int) + (c : Int)) = ((at_ + 1 + n + 1 + c : Nat) : Int) by omega]
      unfold iV
      rw [cutV_cut _ (by omega) (by omega), show at_ + 1 + n + 1 + c - (at_ + 1 + n + 1) = c by omega]
    refine ⟨_, rfl, _, _, rfl, rfl, ?_⟩
    refine ⟨_, rfl, _, rfl, _, rfl, _, _, _, _, rfl, rfl, hca', atI_nat hcc, _, _, rfl, rfl, ?_⟩
    refine ⟨_, rfl, .inl ⟨rfl, _, SqL.of o.at_⟩, _, rfl, _, rfl, _, rfl, _, rfl, _, rfl, _, _, rfl, hca', fun z hz => ?_⟩
    rw [cut2]
    have g3 := g.put (o := .lst (iV ((l.drop (at_ + 1 + n + 1)).take c))) hz
    have o3 := o.put (u := .lst (iV ((l.drop (at_ + 1 + n + 1)).take c))) hz
    refine ⟨ra, _, _, rfl, rfl, o3.at_, (by show 0 < sizeLine; decide), _, _, [z], _, _, rfl, g3.own o3, o3.set, .inr ⟨by omega, by omega, ?_⟩⟩
    rw [c3]
    exact .cons upd_same .nil
  · rintro σ H' ⟨F2, bi, as, v, u, rfl, g, o, hc⟩
    have fin : bi = (behind : Int) ∧ All2 (fun a r => F2 a = some (.lst (iV r))) as rws := by
      rcases hc with ⟨z, e1, e2⟩ | ⟨z, e1, e2⟩
      · obtain ⟨q1, q2⟩ := hp.zero (by omega)
        rw [q1, e2]
        exact ⟨by omega, .nil⟩
      · exact ⟨e1, e2⟩
    obtain ⟨rfl, hA⟩ := fin
    refine ⟨_, rfl, _, rfl, _, rfl, (by show 3 ≤ sizeLine; decide), fun t ht => ?_⟩
    have g5 := g1.trans (g.freeze o.new o.out o.at_)
    have g6 := g5.add (o := .tup [.ref na, .ref ra, .int (behind : Int)]) ht
    refine h _ _ t na ra as g6 upd_same ?_ upd_same (hA.imp fun _ _ e => (same_upd o.out) _ _ e)
    rw [upd_ne (ne_some (g.fr _ _ eN) o.out)]
    exact g.fr _ _ eN
end
end CB
end
section
set_option Elab.async false
set_option linter.all false
set_option maxRecDepth 100000
set_option maxHeartbeats 4000000
namespace CB
open PySem PySem.Spec PyProof.Rows L2
open LsChain (Book)
theorem sqL_gm {K : PySem.W.Frag} {H F H2 F2 : Hp} {la C dx : Addr} {fs : List (Str × V)} {a : Addr} {xs : List V} (h : SqL K H a xs) (e : H la = some (.ins C dx fs)) (g : Gm (oneM la) H F H2 F2) : SqL K H2 a xs := by
  rcases h with h | h
  · have n : ¬ oneM la a := fun q => by
      rw [show a = la from q] at h
      rcases h with h | ⟨o, h⟩
      · rw [e] at h
        cases h
      · rw [e] at h
        cases h
    rcases h with h | ⟨o, h⟩
    · exact .inl (.inl (g.keep _ _ n h))
    · exact .inl (.inr ⟨o, g.keep _ _ n h⟩)
  · exact .inr h
theorem sqL_upd {K : PySem.W.Frag} {H : Hp} {A : Addr} {o : HO} {a : Addr} {xs : List V} (h : SqL K H a xs) (n : A ≠ a) : SqL K (upd H A o) a xs := by
  rcases h with h | h
  · rcases h with h | ⟨u, h⟩
    · exact .inl (.inl ((upd_ne (Ne.symm n)).trans h))
    · exact .inl (.inr ⟨u, (upd_ne (Ne.symm n)).trans h⟩)
  · exact .inr h
theorem sqL_new {K : PySem.W.Frag} {H : Hp} {A : Addr} {a : Addr} {xs : List V} (h : SqL K H a xs) (n : H A = none) : A ≠ a ∨ ∀ H', SqL K H' a xs := by
  rcases h with h | h
  · refine .inl fun z => ?_
    rw [z] at n
    rcases h with h | ⟨u, h⟩
    · rw [h] at n
      cases n
    · rw [h] at n
      cases n
  · exact .inr fun _ => .inr h
theorem inside_cons {c : List (List Int)} {cs : List (List (List Int))} (h : PyInside.calls PyWrmpch.bound (c :: cs) = true) : PyInside.call PyWrmpch.bound c = true ∧ PyInside.calls PyWrmpch.bound cs = true := Bool.and_eq_true_iff.mp h
theorem asked_cons {c : List (List Int)} {cs : List (List (List Int))} (h : ChainNeutral.asked (c :: cs) = true) : (ChainNeutral.callOf c).isSome = true ∧ ChainNeutral.asked cs = true := Bool.and_eq_true_iff.mp h
theorem step_some {b : Book} {c : List (List Int)} {x : ChainSpec.Call} (h : ChainNeutral.callOf c = some x) : ChainNeutral.step b c = ((ChainSpec.step b x).1, LsRows.told (ChainSpec.step b x).2) := by
  unfold ChainNeutral.step
  rw [h]
theorem deed_in {p : Int} {n k : Nat} (h : PyWrmpch.shape p = some (n, k)) : ∃ x, (p, x) ∈ deedsL := by
  suffices hm : p ∈ deedsL.map (·.1) by
    obtain ⟨⟨a, x⟩, h1, h2⟩ := List.mem_map.mp hm
    rw [← show a = p from h2]
    exact ⟨x, h1⟩
  have h1 := (shape_in h).1
  unfold formsL at h1
  simp only [List.mem_cons, Prod.mk.injEq, List.mem_nil_iff, or_false] at h1
  rcases h1 with h1 | h1 | h1 | h1 | h1 | h1 | h1 | h1 | h1 | h1 | h1 | h1 | h1 | h1 | h1 | h1 <;> (rw [h1.1]; decide)
section
variable {P : Program} {w : World} {K : PySem.W.Frag} {mg : Str → Option Value} {base : Heap}
theorem fn_answers (T : Txt K mg) {fd : FuncData} (F : FunD K "answers" "answers" (defArgs s_answers) (defBody s_answers) (defScope s_answers) [] [] (He.fAd K ("answers", none)) fd) : FnOk P w K mg base CX0 15 (He.fAd K ("answers", none)) fd ["calls"] (spAnswers K) := by
  refine F.ok (k := 14) sc_answers len1 (fun cdv A outer s H vs Q E hr h => ?_)
  suffices hh : ∃ t, PSs (cxOf CX0 P w K mg base N_answers "answers" (defScope s_answers) (He.fAd K ("answers", none)) cdv A outer s H E).nox (defBody s_answers) t ∧ t { nx := fun _ H' => Q .non H', rt := Q } (start N_answers vs) H by
    obtain ⟨t, h1, h2⟩ := hh
    exact ⟨t, PSs.nox h1, h2⟩
  refine ⟨_, (pss_cons (ps_set (i := 1) sc_answers.nd rfl (Or.inl rfl) (pe_k0 T.k_Land (ok_Land___init__ T) hr))
      (pss_cons (ps_set (i := 2) sc_answers.nd rfl (Or.inl rfl) (pe_lst pa_nil))
      (pss_cons (ps_set (i := 3) sc_answers.nd rfl (Or.inl rfl) pe_int)
      (pss_cons (ps_while PassesOwn.never (pt_cmpR op_lt (pv 3) (pe_callB call_len (by rfl) T.n_len (by decide +kernel) (pa_cons (pv 0) pa_nil)) (nomark _)) (pss_cons (ps_asg (pe_c (ok_call_from T) hr (pa_cons (pv 0) (pa_cons (pv 3) pa_nil))) (pg_tup (by rfl) (pgs_cons (pg_name (i := 4) sc_answers.nd rfl (Or.inl rfl)) (pgs_cons (pg_name (i := 5) sc_answers.nd rfl (Or.inl rfl)) (pgs_cons (pg_name (i := 6) sc_answers.nd rfl (Or.inl rfl)) pgs_nil)))))
      (pss_cons (ps_set (i := 7) sc_answers.nd rfl (Or.inl rfl) (pe_ix ix_idct (pe_gref T.g_DEEDS) (pe_ix ix_list (pv 0) (pv 3) (fun _ _ => rfl)) (fun _ _ => rfl)))
      (pss_cons (ps_set (i := 8) sc_answers.nd rfl (Or.inl rfl) (pe_callA (i := 7) (deeds_held T) (hr.mono (by decide)) rfl (Or.inl rfl) (pa_cons (pv 1) (pa_cons (pv 4) (pa_cons (pv 5) pa_nil)))))
      (pss_cons (ps_expr (pe_bm PySem.F.plainAttrs_list PySem.F.slot_list_append PySem.F.type_list_append mt_append (pv 2) (pa_cons (pe_callB call_len (by rfl) T.n_len (by decide +kernel) (pa_cons (pv 8) pa_nil)) pa_nil)))
      (pss_cons (ps_expr (pe_bm PySem.F.plainAttrs_list PySem.F.slot_list_extend PySem.F.type_list_extend mt_extend (pv 2) (pa_cons (pv 8) pa_nil)))
      (pss_one (ps_set (i := 3) sc_answers.nd rfl (Or.inl rfl) (pv 6)))))))))
      (pss_one (ps_ret (pv 2))))))), ?_⟩
  obtain ⟨x0, rfl, h⟩ := h
  obtain ⟨ca, l, rfl, hca, hask, h⟩ := h
  obtain ⟨raw, r1, r2, r3, r4, r5⟩ := asked_start hask
  rw [r4] at h r5
  intro lx dx nx nd ne
  have sH0 : Same H (upd (upd H dx (.own lx)) lx (.ins (He.ga K "Land") dx [])) := same_upd2 (same_upd nd) (by rw [upd_ne (Ne.symm ne)]; exact nx)
  have hca0 := sqL_mono hca sH0
  refine ⟨_, rfl, lx, dx, fun _ => none, rfl, upd_same, (fun _ _ e => nomatch e), rfl, fun H1 F1 g1 hl1 => ⟨rfl, ?_⟩⟩
  have hca1 := sqL_gm hca0 upd_same g1
  refine ⟨(by show 0 ≤ sizeLine; decide), fun A hA => ?_⟩
  have s2 : Same H1 (upd H1 A (.lst [])) := same_upd hA
  have hne := sqL_new hca1 hA
  refine ⟨fun m σ H' => ∃ (at_ fuel : Nat) (rest : List (List (List Int))) (b : Book) (done : List Int) (F' : Hp) (v4 v5 v6 v7 v8 : Option V), σ = [some (.ref ca), some (.ref lx), some (.ref A), some (.int (at_ : Int)), v4, v5, v6, v7, v8] ∧ LandIs K H' F' lx b ∧ H' A = some (.lst (iV done)) ∧ F' A = none ∧ SqL K H' ca (iV l) ∧ at_ ≤ l.length ∧
    PyFlat.calls PyWrmpch.shape fuel (l.drop at_) = some rest ∧ PyInside.calls PyWrmpch.bound rest = true ∧ ChainNeutral.asked rest = true ∧ done ++ toldOf b rest = toldOf LsChain.empty raw ∧ m = l.length - at_, ⟨_, 0, l.length, raw, LsChain.empty, [], F1, none, none, none, none, none, rfl, hl1.same s2, upd_same, hl1.sub.free hA, sqL_mono hca1 s2, Nat.zero_le _, r1, r2, r3, rfl, rfl⟩, ?_⟩
  rintro m σ H' ⟨at_, fuel, rest, b, done, F', v4, v5, v6, v7, v8, rfl, hl, hA', fA, hca', hat, hcs, hin, has, htold, rfl⟩
  have ll : (iV l).length = l.length := List.length_map _
  refine ⟨_, rfl, _, rfl, _, _, rfl, .inl ⟨_, hca', rfl⟩, _, _, rfl, rfl, _, rfl, ?_⟩
  rw [ll]
  by_cases c : at_ < l.length
  rotate_left
  · rw [decide_eq_false (show ¬ (at_ : Int) < (l.length : Int) by omega)]
    have e : at_ = l.length := by omega
    rw [e] at hcs
    rw [no_call hcs] at htold
    have e2 : done = toldOf LsChain.empty raw := by
      rw [← htold]
      exact (List.append_nil _).symm
    rw [e2] at hA'
    exact iteF ⟨_, rfl, h _ _ hA'⟩
  rw [decide_eq_true (show (at_ : Int) < (l.length : Int) by omega)]
  obtain ⟨p, nums, rws, behind, fuel', rest', rfl, b1, b2, hcall, hcs'⟩ := next_call c hcs
  obtain ⟨in1, in2⟩ := inside_cons hin
  obtain ⟨as1, as2⟩ := asked_cons has
  obtain ⟨cc, hcc⟩ := Option.isSome_iff_exists.mp as1
  rw [toldOf_cons, step_some hcc] at htold
  dsimp only at htold
  obtain ⟨n, k, hp⟩ := call_parts hat b2 hcall
  obtain ⟨nm, hnm⟩ := deed_in hp.sh
  have hkey : (iV l)[at_]? = some (.int p) := by
    unfold iV
    rw [List.getElem?_map, hp.key]
    rfl
  refine iteT ⟨_, fun _ _ z => z, ?_⟩
  refine ⟨_, rfl, _, rfl, _, _, rfl, ca, l, at_, behind, p, nums, rws, F', rfl, rfl, hca', hl.sub, hat, b2, hcall, fun H2 F2 t na ra ras g2 e1 e2 e3 hR => ?_⟩
  have hl2 := hl.gr g2
  have hca2 := sqL_mono hca' g2.keep
  have hA2 := g2.keep _ _ hA'
  have fA2 : F2 A = none := (g2.new _ _ hA').trans fA
  refine ⟨t, _, rfl, .of e1, rfl, _, _, rfl, _, _, rfl, _, _, rfl, rfl, ?_⟩
  refine ⟨_, rfl, _, rfl, _, _, _, _, rfl, rfl, hca2, atI_nat hkey, _, _, _, rfl, rfl, T.deed hnm, ?_⟩
  have hsz : ∀ r ∈ rws, r.length ≤ 1000000 := fun r hr => by
    obtain ⟨i1, i2, i3⟩ := shape_in hp.sh
    by_cases k1 : k = 1
    · obtain ⟨cn, c1, c2, c3⟩ := hp.one k1
      rw [c3] at hr in1
      rw [List.mem_singleton.mp hr]
      exact inside_row in1 (by rw [hp.sh, k1])
    · rw [(hp.zero (by omega)).1] at hr
      cases hr
  obtain ⟨dx2, ba2, pa2, il, _⟩ := id hl2
  refine ⟨He.fAd K (nm, none), spDeed K p, rfl, deedSp_at T hnm, _, rfl, _, rfl, _, rfl, _, _, _, rfl, lx, na, ra, b, nums, rws, ras, cc, F2, rfl, rfl, rfl, hl2, e2, e3, hR, hsz, hcc, fun H3 F3 ap g3 nap hl3 eA => ?_⟩
  have nA : A ≠ lx := fun z => by
    rw [z, il] at hA2
    cases hA2
  have hA3 : H3 A = some (.lst (iV done)) := g3.keep _ _ nA hA2
  have fA3 : F3 A = none := (g3.new _ _ hA2).trans fA2
  have hca3 := sqL_gm hca2 il g3
  have nap2 : A ≠ ap := fun z => by
    rw [z, nap] at hA2
    cases hA2
  have tot := congrArg List.length htold
  rw [List.length_append, List.length_append, List.length_cons] at tot
  have la : (iV (LsRows.told (ChainSpec.step b cc).2)).length = (LsRows.told (ChainSpec.step b cc).2).length := List.length_map _
  refine ⟨_, rfl, .inl ⟨rfl, _, SqL.of hA3⟩, _, rfl, _, _, rfl, .inl ⟨_, .of eA, rfl⟩, A, _, _, rfl, rfl, hA3, ?_, ?_⟩
  · unfold iV
    rw [List.length_map]
    have : sizeLine = 16777216 := sizeLine_eq
    omega
  have ea : iV done ++ [V.int ((LsRows.told (ChainSpec.step b cc).2).length : Int)] = iV (done ++ [((LsRows.told (ChainSpec.step b cc).2).length : Int)]) := by
    rw [← iV_app]
    rfl
  rw [la, ea]
  have eA4 : upd H3 A (.lst (iV (done ++ [((LsRows.told (ChainSpec.step b cc).2).length : Int)]))) ap = some (.lst (iV (LsRows.told (ChainSpec.step b cc).2))) := (upd_ne (Ne.symm nap2)).trans eA
  refine ⟨_, rfl, .inl ⟨rfl, _, SqL.of upd_same⟩, _, rfl, A, ap, _, _, rfl, rfl, upd_same, eA4, ?_, ?_⟩
  · unfold iV
    rw [List.length_map, List.length_map, List.length_append, List.length_singleton]
    have : sizeLine = 16777216 := sizeLine_eq
    omega
  rw [upd_upd, iV_app]
  have hl4 : ∀ o, LandIs K (upd H3 A o) F3 lx (ChainSpec.step b cc).1 := fun o => by
    obtain ⟨d1, d2, d3, q1, q2, q3, q4, q5⟩ := hl3
    refine ⟨d1, d2, d3, (upd_ne (Ne.symm nA)).trans q1, q2, q3, q4, fun a o2 e => ?_⟩
    rw [upd_ne (fun z => by rw [z, fA3] at e; cases e)]
    exact q5 _ _ e
  have hca4 : ∀ o, SqL K (upd H3 A (.lst o)) ca (iV l) := fun o => by
    rcases hne with n | al
    · exact sqL_upd hca3 n
    · exact al _
  refine ⟨_, rfl, _, ?_, behind, fuel', rest', (ChainSpec.step b cc).1, _, F3, _, _, _, _, _, rfl, hl4 _, upd_same, fA3, hca4 _, b2, hcs', in2, as2, ?_, rfl⟩
  · omega
  · rw [← htold]
    simp only [List.append_assoc, List.cons_append, List.nil_append]
end
end CB
end
section
set_option Elab.async false
set_option linter.all false
set_option maxRecDepth 100000
set_option maxHeartbeats 8000000
namespace CB
open PySem PySem.Spec PyProof.Rows L2
theorem end_fn {w : World} {K : PySem.W.Frag} {mg : Str → Option Value} {h : Heap} (KX : K.In h) (G : h.Ns mainGlobals mg) (c : He.SaysD fa fn K) (x : xtra K = true) {f : Addr} (hf : mg "answers" = some (.ref f)) :
    ∃ fd : FuncData, (∀ (s : Shared) (us : List Value), us.length = (["calls"] : List Str).length → BindsTo s fd ⟨us, []⟩ ((["calls"] : List Str).zip us)) ∧
      ∀ base : Heap, K.In base → base.Ns mainGlobals mg → FnOk RW0.prog w K mg base CX0 15 f fd ["calls"] (spAnswers K) := by
  have T : Txt K mg := ⟨⟨h, KX, G⟩, c, x⟩
  obtain ⟨fd, F⟩ := c.def_ 111 rfl
  have e := hf.symm.trans T.g_answers
  injection e with e
  injection e with e
  subst e
  exact ⟨fd, F.bindsA fun _ _ _ _ _ _ us hl => match us, hl with | [_], _ => rfl, fun base _ _ => fn_answers T F⟩
end CB
end
section
set_option Elab.async false
set_option linter.all false
set_option maxRecDepth 100000
set_option maxHeartbeats 8000000
namespace CB
open PySem PySem.Spec PyProof.Rows L2
open PySem.W (WData Codec OpenSpec)
theorem end_sp {K : PySem.W.Frag} (H : Hp) (xs : List V) (a : Codec.denoteAll RW0.args) (h2 : Codec.app RW0.args RW0.asked a = true) (hS : DwAll K H xs (Codec.encAll RW0.args a)) :
    spAnswers K xs H (fun v H' => Dw K H' v (RW0.ret.enc (Codec.app RW0.args RW0.f a))) fun _ _ _ => False := by
  obtain ⟨l, u⟩ := a
  have ask : PyWrmpch.answers_asked l = true := h2
  have hS' : DwAll K H xs [.list (l.map WData.int)] := hS
  cases hS' with
  | cons h t =>
    cases t
    cases h with
    | lst q d =>
      rw [ints_dw _ _ d] at q
      exact ⟨_, rfl, _, l, rfl, q, ask, fun p H2 e => .lst (SqL.of e) (dw_ints _)⟩
theorem end_call : PySem.W.WalkOS qv names (PySem.W.XL qv []) hook.says RW0 (HeadRun.topDef RW0.prog 155) [] fun f vs => PySem.call f vs := by
  intro w s₀ s₁ mg mb G Y
  obtain ⟨K, KX, c, x⟩ := Y
  exact L2.walk_spec (r := RW0) (k := 15) (YP := fun _ h => K.In h) (K := fun _ => K) (CX := fun _ => CX0) (ps := ["calls"]) (sp := fun _ => spAnswers K) head_said rfl rfl ⟨rfl, by decide, by decide⟩ (fun _ _ y => y)
    (fun w mg fa h _ KX G hmg => end_fn KX G c x hmg) (fun w H xs a _ _ h2 hS => end_sp H xs a h2 hS) (fun _ _ _ _ _ z => z) w s₀ s₁ mg mb G KX
end CB
open PySem PySem.W PySem.Calls PyProof.Rows in
theorem PySem.Challenge.cw_chainbook_s01_answers_holds : PySem.Challenge.rw_chainbook_s01_answers.Holds := by
  refine HeadRun.head_spec (r := CB.RW0) (q := CB.qv) (H := CB.hook) (ob := CB.ob) (M := 7000) (loose := CB.names) (d := HeadRun.topDef CB.RW0.prog 155) (kwd := []) CB.ob_eq
    (by kernel_rfl) (fun s => by kernel_rfl) CB.head_run (by kernel_rfl) (by kernel_rfl) (by kernel_rfl) (fun as h => os_shapes as h) CB.head_said (by decide +kernel) CB.head_bare ⟨[.list []], by decide +kernel, by decide +kernel⟩ CB.end_call
end

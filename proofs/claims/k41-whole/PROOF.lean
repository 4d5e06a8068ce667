import PyProof.Rows.All
import Wide.All
import OpenK.AllK
import Wide.FinOn
import HandS.ForMost
import HandS.Exc
import HandS.ExcInit
import HandS.ExcIs
import HandS.ExcField
import HandS.IsInst
import HandS.Lambda
import HandS.EndTab
import HandS.HeadWalk
import HandS.WordsExc
import HandS.Defaults
import HandS.HeadHook4
import HandS.TupAny
import HandS.Style
import HandS.NoneIn
import HandS.CallRecv
import PySem.Challenge.RW_pennyroll_k41_whole_any_text_of_counties
import KE.KStateDown
import HandS.Head0
import HandS.Head1
import HandS.Head2
import PyProof.NeKinds
import HandS.TupMul
import KE.KExcIs
import PyProof.ReprRoads
import HandS.EndBits
import HandS.FStrTup
import HandS.Walk
import HandS.ForDict

section
set_option Elab.async false
set_option linter.all false
set_option maxRecDepth 100000
set_option maxHeartbeats 4000000
namespace Pr
open PySem PySem.Spec PyProof.Rows L2
def top (i : Nat) : Stmt := PySem.Challenge.pw_pennyroll_k41_whole_any_text_of_counties.main.body.getD i (.Pass ⟨0, 0, 0, 0⟩)
abbrev s_bt_init : Stmt := inClass (top 10) 0
abbrev N_bt_init : List Str := ["self", "line", "word"]
abbrev P_bt_init : List Str := ["self", "line", "word"]
theorem sc_bt_init : FnScope N_bt_init P_bt_init (defScope s_bt_init) := ⟨rfl, rfl, rfl, by decide +kernel, rfl, by decide +kernel, by decide +kernel⟩
def d_bt_init : He.DefD := ⟨("BadText", some "__init__"), "__init__", "BadText.__init__", defArgs s_bt_init, defBody s_bt_init, defScope s_bt_init, [], []⟩
abbrev s_is_whole : Stmt := top 17
abbrev N_is_whole : List Str := ["thing", "least", "most"]
abbrev P_is_whole : List Str := ["thing", "least", "most"]
theorem sc_is_whole : FnScope N_is_whole P_is_whole (defScope s_is_whole) := ⟨rfl, rfl, rfl, by decide +kernel, rfl, by decide +kernel, by decide +kernel⟩
def d_is_whole : He.DefD := ⟨("is_whole", none), "is_whole", "is_whole", defArgs s_is_whole, defBody s_is_whole, defScope s_is_whole, [], []⟩
abbrev s_is_name : Stmt := top 18
abbrev N_is_name : List Str := ["thing", "sign"]
abbrev P_is_name : List Str := ["thing"]
theorem sc_is_name : FnScope N_is_name P_is_name (defScope s_is_name) := ⟨rfl, rfl, rfl, by decide +kernel, rfl, by decide +kernel, by decide +kernel⟩
def d_is_name : He.DefD := ⟨("is_name", none), "is_name", "is_name", defArgs s_is_name, defBody s_is_name, defScope s_is_name, [], []⟩
abbrev s_number_of : Stmt := top 19
abbrev N_number_of : List Str := ["word", "sign"]
abbrev P_number_of : List Str := ["word"]
theorem sc_number_of : FnScope N_number_of P_number_of (defScope s_number_of) := ⟨rfl, rfl, rfl, by decide +kernel, rfl, by decide +kernel, by decide +kernel⟩
def d_number_of : He.DefD := ⟨("number_of", none), "number_of", "number_of", defArgs s_number_of, defBody s_number_of, defScope s_number_of, [], []⟩
abbrev s_words_of : Stmt := top 20
abbrev N_words_of : List Str := ["line", "found"]
abbrev P_words_of : List Str := ["line"]
theorem sc_words_of : FnScope N_words_of P_words_of (defScope s_words_of) := ⟨rfl, rfl, rfl, by decide +kernel, rfl, by decide +kernel, by decide +kernel⟩
def d_words_of : He.DefD := ⟨("words_of", none), "words_of", "words_of", defArgs s_words_of, defBody s_words_of, defScope s_words_of, [], []⟩
abbrev s_r_init : Stmt := inClass (top 28) 0
abbrev N_r_init : List Str := ["self"]
abbrev P_r_init : List Str := ["self"]
theorem sc_r_init : FnScope N_r_init P_r_init (defScope s_r_init) := ⟨rfl, rfl, rfl, by decide +kernel, rfl, by decide +kernel, by decide +kernel⟩
def d_r_init : He.DefD := ⟨("Rolls", some "__init__"), "__init__", "Rolls.__init__", defArgs s_r_init, defBody s_r_init, defScope s_r_init, [], []⟩
abbrev s_r_first_words : Stmt := inClass (top 28) 1
abbrev N_r_first_words : List Str := ["self", "houses", "words"]
abbrev P_r_first_words : List Str := ["self"]
theorem sc_r_first_words : FnScope N_r_first_words P_r_first_words (defScope s_r_first_words) := ⟨rfl, rfl, rfl, by decide +kernel, rfl, by decide +kernel, by decide +kernel⟩
def d_r_first_words : He.DefD := ⟨("Rolls", some "first_words"), "first_words", "Rolls.first_words", defArgs s_r_first_words, defBody s_r_first_words, defScope s_r_first_words, [], []⟩
abbrev s_r_take_parish : Stmt := inClass (top 28) 2
abbrev N_r_take_parish : List Str := ["self", "line", "name"]
abbrev P_r_take_parish : List Str := ["self", "line"]
theorem sc_r_take_parish : FnScope N_r_take_parish P_r_take_parish (defScope s_r_take_parish) := ⟨rfl, rfl, rfl, by decide +kernel, rfl, by decide +kernel, by decide +kernel⟩
def d_r_take_parish : He.DefD := ⟨("Rolls", some "take_parish"), "take_parish", "Rolls.take_parish", defArgs s_r_take_parish, defBody s_r_take_parish, defScope s_r_take_parish, [], []⟩
abbrev s_r_take_house : Stmt := inClass (top 28) 3
abbrev N_r_take_house : List Str := ["self", "line", "name", "worth"]
abbrev P_r_take_house : List Str := ["self", "line"]
theorem sc_r_take_house : FnScope N_r_take_house P_r_take_house (defScope s_r_take_house) := ⟨rfl, rfl, rfl, by decide +kernel, rfl, by decide +kernel, by decide +kernel⟩
def d_r_take_house : He.DefD := ⟨("Rolls", some "take_house"), "take_house", "Rolls.take_house", defArgs s_r_take_house, defBody s_r_take_house, defScope s_r_take_house, [], []⟩
abbrev s_r_take_held : Stmt := inClass (top 28) 4
abbrev N_r_take_held : List Str := ["self", "line", "holdings", "holder", "least", "first"]
abbrev P_r_take_held : List Str := ["self", "line"]
theorem sc_r_take_held : FnScope N_r_take_held P_r_take_held (defScope s_r_take_held) := ⟨rfl, rfl, rfl, by decide +kernel, rfl, by decide +kernel, by decide +kernel⟩
def d_r_take_held : He.DefD := ⟨("Rolls", some "take_held"), "take_held", "Rolls.take_held", defArgs s_r_take_held, defBody s_r_take_held, defScope s_r_take_held, [], []⟩
abbrev s_r_take : Stmt := inClass (top 28) 5
abbrev N_r_take : List Str := ["self", "line", "word"]
abbrev P_r_take : List Str := ["self", "line"]
theorem sc_r_take : FnScope N_r_take P_r_take (defScope s_r_take) := ⟨rfl, rfl, rfl, by decide +kernel, rfl, by decide +kernel, by decide +kernel⟩
def d_r_take : He.DefD := ⟨("Rolls", some "take"), "take", "Rolls.take", defArgs s_r_take, defBody s_r_take, defScope s_r_take, [], []⟩
abbrev s_r_whole_county : Stmt := inClass (top 28) 6
abbrev N_r_whole_county : List Str := ["self", "line_behind", "rows", "parish", "houses", "house", "worth", "holdings"]
abbrev P_r_whole_county : List Str := ["self", "line_behind"]
theorem sc_r_whole_county : FnScope N_r_whole_county P_r_whole_county (defScope s_r_whole_county) := ⟨rfl, rfl, rfl, by decide +kernel, rfl, by decide +kernel, by decide +kernel⟩
def d_r_whole_county : He.DefD := ⟨("Rolls", some "whole_county"), "whole_county", "Rolls.whole_county", defArgs s_r_whole_county, defBody s_r_whole_county, defScope s_r_whole_county, [], []⟩
abbrev s_n_init : Stmt := inClass (top 29) 0
abbrev N_n_init : List Str := ["self", "words", "number"]
abbrev P_n_init : List Str := ["self", "words", "number"]
theorem sc_n_init : FnScope N_n_init P_n_init (defScope s_n_init) := ⟨rfl, rfl, rfl, by decide +kernel, rfl, by decide +kernel, by decide +kernel⟩
def d_n_init : He.DefD := ⟨("Line", some "__init__"), "__init__", "Line.__init__", defArgs s_n_init, defBody s_n_init, defScope s_n_init, [], []⟩
abbrev s_n_refuse : Stmt := inClass (top 29) 1
abbrev N_n_refuse : List Str := ["self"]
abbrev P_n_refuse : List Str := ["self"]
theorem sc_n_refuse : FnScope N_n_refuse P_n_refuse (defScope s_n_refuse) := ⟨rfl, rfl, rfl, by decide +kernel, rfl, by decide +kernel, by decide +kernel⟩
def d_n_refuse : He.DefD := ⟨("Line", some "refuse"), "refuse", "Line.refuse", defArgs s_n_refuse, defBody s_n_refuse, defScope s_n_refuse, [], []⟩
abbrev s_n_next_word : Stmt := inClass (top 29) 2
abbrev N_n_next_word : List Str := ["self"]
abbrev P_n_next_word : List Str := ["self"]
theorem sc_n_next_word : FnScope N_n_next_word P_n_next_word (defScope s_n_next_word) := ⟨rfl, rfl, rfl, by decide +kernel, rfl, by decide +kernel, by decide +kernel⟩
def d_n_next_word : He.DefD := ⟨("Line", some "next_word"), "next_word", "Line.next_word", defArgs s_n_next_word, defBody s_n_next_word, defScope s_n_next_word, [], []⟩
abbrev s_n_needed : Stmt := inClass (top 29) 3
abbrev N_n_needed : List Str := ["self", "good", "found"]
abbrev P_n_needed : List Str := ["self", "good", "found"]
theorem sc_n_needed : FnScope N_n_needed P_n_needed (defScope s_n_needed) := ⟨rfl, rfl, rfl, by decide +kernel, rfl, by decide +kernel, by decide +kernel⟩
def d_n_needed : He.DefD := ⟨("Line", some "needed"), "needed", "Line.needed", defArgs s_n_needed, defBody s_n_needed, defScope s_n_needed, [], []⟩
abbrev s_n_of_words : Stmt := inClass (top 29) 4
abbrev N_n_of_words : List Str := ["self", "some"]
abbrev P_n_of_words : List Str := ["self", "some"]
theorem sc_n_of_words : FnScope N_n_of_words P_n_of_words (defScope s_n_of_words) := ⟨rfl, rfl, rfl, by decide +kernel, rfl, by decide +kernel, by decide +kernel⟩
def d_n_of_words : He.DefD := ⟨("Line", some "of_words"), "of_words", "Line.of_words", defArgs s_n_of_words, defBody s_n_of_words, defScope s_n_of_words, [], []⟩
abbrev s_n_name_unlike : Stmt := inClass (top 29) 5
abbrev N_n_name_unlike : List Str := ["self", "names"]
abbrev P_n_name_unlike : List Str := ["self", "names"]
theorem sc_n_name_unlike : FnScope N_n_name_unlike P_n_name_unlike (defScope s_n_name_unlike) := ⟨rfl, rfl, rfl, by decide +kernel, rfl, by decide +kernel, by decide +kernel⟩
def d_n_name_unlike : He.DefD := ⟨("Line", some "name_unlike"), "name_unlike", "Line.name_unlike", defArgs s_n_name_unlike, defBody s_n_name_unlike, defScope s_n_name_unlike, [], []⟩
abbrev s_n_whole : Stmt := inClass (top 29) 6
abbrev N_n_whole : List Str := ["self", "least", "most", "found"]
abbrev P_n_whole : List Str := ["self", "least", "most"]
theorem sc_n_whole : FnScope N_n_whole P_n_whole (defScope s_n_whole) := ⟨rfl, rfl, rfl, by decide +kernel, rfl, by decide +kernel, by decide +kernel⟩
def d_n_whole : He.DefD := ⟨("Line", some "whole"), "whole", "Line.whole", defArgs s_n_whole, defBody s_n_whole, defScope s_n_whole, [], []⟩
abbrev s_n_over : Stmt := inClass (top 29) 7
abbrev N_n_over : List Str := ["self"]
abbrev P_n_over : List Str := ["self"]
theorem sc_n_over : FnScope N_n_over P_n_over (defScope s_n_over) := ⟨rfl, rfl, rfl, by decide +kernel, rfl, by decide +kernel, by decide +kernel⟩
def d_n_over : He.DefD := ⟨("Line", some "over"), "over", "Line.over", defArgs s_n_over, defBody s_n_over, defScope s_n_over, [], []⟩
abbrev s_read_county : Stmt := top 30
abbrev N_read_county : List Str := ["text", "rolls", "lines", "place", "line", "words"]
abbrev P_read_county : List Str := ["text"]
theorem sc_read_county : FnScope N_read_county P_read_county (defScope s_read_county) := ⟨rfl, rfl, rfl, by decide +kernel, rfl, by decide +kernel, by decide +kernel⟩
def d_read_county : He.DefD := ⟨("read_county", none), "read_county", "read_county", defArgs s_read_county, defBody s_read_county, defScope s_read_county, [], []⟩
abbrev s_l_mixed : Stmt := top 32
abbrev N_l_mixed : List Str := ["_law_cell", "_law_k", "_law_number"]
abbrev P_l_mixed : List Str := ["_law_cell", "_law_k"]
theorem sc_l_mixed : FnScope N_l_mixed P_l_mixed (defScope s_l_mixed) := ⟨rfl, rfl, rfl, by decide +kernel, rfl, by decide +kernel, by decide +kernel⟩
def d_l_mixed : He.DefD := ⟨("_law_mixed", none), "_law_mixed", "_law_mixed", defArgs s_l_mixed, defBody s_l_mixed, defScope s_l_mixed, [], []⟩
abbrev s_l_folded : Stmt := top 33
abbrev N_l_folded : List Str := ["_law_script", "_law_k", "_law_found", "_law_cell"]
abbrev P_l_folded : List Str := ["_law_script"]
theorem sc_l_folded : FnScope N_l_folded P_l_folded (defScope s_l_folded) := ⟨rfl, rfl, rfl, by decide +kernel, rfl, by decide +kernel, by decide +kernel⟩
def d_l_folded : He.DefD := ⟨("_law_folded", none), "_law_folded", "_law_folded", defArgs s_l_folded, defBody s_l_folded, defScope s_l_folded, [], []⟩
abbrev s_l_draw : Stmt := top 34
abbrev N_l_draw : List Str := ["_law_m", "_law_many", "_law_k", "_law_at", "_law_cell"]
abbrev P_l_draw : List Str := ["_law_m", "_law_many"]
theorem sc_l_draw : FnScope N_l_draw P_l_draw (defScope s_l_draw) := ⟨rfl, rfl, rfl, by decide +kernel, rfl, by decide +kernel, by decide +kernel⟩
def d_l_draw : He.DefD := ⟨("_law_draw", none), "_law_draw", "_law_draw", defArgs s_l_draw, defBody s_l_draw, defScope s_l_draw, [], []⟩
abbrev s_l_begun : Stmt := top 35
abbrev N_l_begun : List Str := ["_law_script", "_law_m", "_law_cell"]
abbrev P_l_begun : List Str := ["_law_script"]
theorem sc_l_begun : FnScope N_l_begun P_l_begun (defScope s_l_begun) := ⟨rfl, rfl, rfl, by decide +kernel, rfl, by decide +kernel, by decide +kernel⟩
def d_l_begun : He.DefD := ⟨("_law_begun", none), "_law_begun", "_law_begun", defArgs s_l_begun, defBody s_l_begun, defScope s_l_begun, [], []⟩
abbrev s_l_called : Stmt := top 36
abbrev N_l_called : List Str := ["_law_m", "_law_many", "_law_letters", "_law_found", "_law_shift", "_law_stride", "_law_k", "_law_name", "_law_j"]
abbrev P_l_called : List Str := ["_law_m", "_law_many"]
theorem sc_l_called : FnScope N_l_called P_l_called (defScope s_l_called) := ⟨rfl, rfl, rfl, by decide +kernel, rfl, by decide +kernel, by decide +kernel⟩
def d_l_called : He.DefD := ⟨("_law_called", none), "_law_called", "_law_called", defArgs s_l_called, defBody s_l_called, defScope s_l_called, [], []⟩
abbrev s_l_people : Stmt := top 37
abbrev N_l_people : List Str := ["_law_m"]
abbrev P_l_people : List Str := ["_law_m"]
theorem sc_l_people : FnScope N_l_people P_l_people (defScope s_l_people) := ⟨rfl, rfl, rfl, by decide +kernel, rfl, by decide +kernel, by decide +kernel⟩
def d_l_people : He.DefD := ⟨("_law_people", none), "_law_people", "_law_people", defArgs s_l_people, defBody s_l_people, defScope s_l_people, [], []⟩
abbrev s_l_holdings : Stmt := top 38
abbrev N_l_holdings : List Str := ["_law_m", "_law_people_here", "_law_most", "_law_found", "_law_day", "_law_k", "_law_last"]
abbrev P_l_holdings : List Str := ["_law_m", "_law_people_here", "_law_most"]
theorem sc_l_holdings : FnScope N_l_holdings P_l_holdings (defScope s_l_holdings) := ⟨rfl, rfl, rfl, by decide +kernel, rfl, by decide +kernel, by decide +kernel⟩
def d_l_holdings : He.DefD := ⟨("_law_holdings", none), "_law_holdings", "_law_holdings", defArgs s_l_holdings, defBody s_l_holdings, defScope s_l_holdings, [], []⟩
abbrev s_l_worth : Stmt := top 39
abbrev N_l_worth : List Str := ["_law_m"]
abbrev P_l_worth : List Str := ["_law_m"]
theorem sc_l_worth : FnScope N_l_worth P_l_worth (defScope s_l_worth) := ⟨rfl, rfl, rfl, by decide +kernel, rfl, by decide +kernel, by decide +kernel⟩
def d_l_worth : He.DefD := ⟨("_law_worth", none), "_law_worth", "_law_worth", defArgs s_l_worth, defBody s_l_worth, defScope s_l_worth, [], []⟩
abbrev s_l_county : Stmt := top 40
abbrev N_l_county : List Str := ["_law_m", "_law_people_here", "_law_parishes", "_law_houses", "_law_names", "_law_found", "_law_k", "_law_own", "_law_j", "_law_worth_here"]
abbrev P_l_county : List Str := ["_law_m", "_law_people_here", "_law_parishes", "_law_houses"]
theorem sc_l_county : FnScope N_l_county P_l_county (defScope s_l_county) := ⟨rfl, rfl, rfl, by decide +kernel, rfl, by decide +kernel, by decide +kernel⟩
def d_l_county : He.DefD := ⟨("_law_county", none), "_law_county", "_law_county", defArgs s_l_county, defBody s_l_county, defScope s_l_county, [], []⟩
abbrev s_l_class : Stmt := top 41
abbrev N_l_class : List Str := ["_law_error", "_law_found", "_law_told_here"]
abbrev P_l_class : List Str := ["_law_error"]
theorem sc_l_class : FnScope N_l_class P_l_class (defScope s_l_class) := ⟨rfl, rfl, rfl, by decide +kernel, rfl, by decide +kernel, by decide +kernel⟩
def d_l_class : He.DefD := ⟨("_law_class", none), "_law_class", "_law_class", defArgs s_l_class, defBody s_l_class, defScope s_l_class, [], []⟩
abbrev s_l_told : Stmt := top 42
abbrev N_l_told : List Str := ["_law_deed", "_law_error", "_law_found", "e"]
abbrev P_l_told : List Str := ["_law_deed"]
theorem sc_l_told : FnScope N_l_told P_l_told (defScope s_l_told) := ⟨rfl, rfl, rfl, by decide +kernel, rfl, by decide +kernel, by decide +kernel⟩
def d_l_told : He.DefD := ⟨("_law_told", none), "_law_told", "_law_told", defArgs s_l_told, defBody s_l_told, defScope s_l_told, [], []⟩
abbrev s_l_is_name : Stmt := top 43
abbrev N_l_is_name : List Str := ["_law_thing", "_law_small", "_law_sign"]
abbrev P_l_is_name : List Str := ["_law_thing"]
theorem sc_l_is_name : FnScope N_l_is_name P_l_is_name (defScope s_l_is_name) := ⟨rfl, rfl, rfl, by decide +kernel, rfl, by decide +kernel, by decide +kernel⟩
def d_l_is_name : He.DefD := ⟨("_law_is_name", none), "_law_is_name", "_law_is_name", defArgs s_l_is_name, defBody s_l_is_name, defScope s_l_is_name, [], []⟩
abbrev s_l_rows : Stmt := top 44
abbrev N_l_rows : List Str := ["_law_county_here", "_law_found", "_law_parish", "_law_houses", "_law_house", "_law_worth_here", "_law_holdings_here", "_law_holder", "_law_first", "_law_last"]
abbrev P_l_rows : List Str := ["_law_county_here"]
theorem sc_l_rows : FnScope N_l_rows P_l_rows (defScope s_l_rows) := ⟨rfl, rfl, rfl, by decide +kernel, rfl, by decide +kernel, by decide +kernel⟩
def d_l_rows : He.DefD := ⟨("_law_rows", none), "_law_rows", "_law_rows", defArgs s_l_rows, defBody s_l_rows, defScope s_l_rows, [], []⟩
abbrev s_l_text : Stmt := top 45
abbrev N_l_text : List Str := ["_law_rows_here", "_law_words"]
abbrev P_l_text : List Str := ["_law_rows_here"]
theorem sc_l_text : FnScope N_l_text P_l_text (defScope s_l_text) := ⟨rfl, rfl, rfl, by decide +kernel, rfl, by decide +kernel, by decide +kernel⟩
def d_l_text : He.DefD := ⟨("_law_text", none), "_law_text", "_law_text", defArgs s_l_text, defBody s_l_text, defScope s_l_text, [], []⟩
abbrev s_l_number_in : Stmt := top 46
abbrev N_l_number_in : List Str := ["_law_words", "_law_at", "_law_least", "_law_most", "_law_word", "_law_sign"]
abbrev P_l_number_in : List Str := ["_law_words", "_law_at", "_law_least", "_law_most"]
theorem sc_l_number_in : FnScope N_l_number_in P_l_number_in (defScope s_l_number_in) := ⟨rfl, rfl, rfl, by decide +kernel, rfl, by decide +kernel, by decide +kernel⟩
def d_l_number_in : He.DefD := ⟨("_law_number_in", none), "_law_number_in", "_law_number_in", defArgs s_l_number_in, defBody s_l_number_in, defScope s_l_number_in, [], []⟩
abbrev s_l_line_in : Stmt := top 47
abbrev N_l_line_in : List Str := ["_law_found", "_law_words", "_law_houses", "_law_name", "_law_parish", "_law_told_here", "_law_worth_here", "_law_house"]
abbrev P_l_line_in : List Str := ["_law_found", "_law_words"]
theorem sc_l_line_in : FnScope N_l_line_in P_l_line_in (defScope s_l_line_in) := ⟨rfl, rfl, rfl, by decide +kernel, rfl, by decide +kernel, by decide +kernel⟩
def d_l_line_in : He.DefD := ⟨("_law_line_in", none), "_law_line_in", "_law_line_in", defArgs s_l_line_in, defBody s_l_line_in, defScope s_l_line_in, [], []⟩
abbrev s_l_held_in : Stmt := top 48
abbrev N_l_held_in : List Str := ["_law_holdings_here", "_law_words", "_law_name", "_law_first", "_law_last"]
abbrev P_l_held_in : List Str := ["_law_holdings_here", "_law_words", "_law_name"]
theorem sc_l_held_in : FnScope N_l_held_in P_l_held_in (defScope s_l_held_in) := ⟨rfl, rfl, rfl, by decide +kernel, rfl, by decide +kernel, by decide +kernel⟩
def d_l_held_in : He.DefD := ⟨("_law_held_in", none), "_law_held_in", "_law_held_in", defArgs s_l_held_in, defBody s_l_held_in, defScope s_l_held_in, [], []⟩
abbrev s_l_due : Stmt := top 49
abbrev N_l_due : List Str := ["_law_text_here", "_law_found", "_law_lines", "_law_number", "_law_line", "_law_words", "_law_place", "_law_worths", "_law_parish", "_law_houses", "_law_rows_here", "_law_house", "_law_worth_here", "_law_holdings_here"]
abbrev P_l_due : List Str := ["_law_text_here"]
theorem sc_l_due : FnScope N_l_due P_l_due (defScope s_l_due) := ⟨rfl, rfl, rfl, by decide +kernel, rfl, by decide +kernel, by decide +kernel⟩
def d_l_due : He.DefD := ⟨("_law_due", none), "_law_due", "_law_due", defArgs s_l_due, defBody s_l_due, defScope s_l_due, [], []⟩
abbrev s_l_bent_words : Stmt := top 50
abbrev N_l_bent_words : List Str := ["_law_m", "_law_words", "_law_some", "_law_at", "_law_other", "_law_way"]
abbrev P_l_bent_words : List Str := ["_law_m", "_law_words", "_law_some"]
theorem sc_l_bent_words : FnScope N_l_bent_words P_l_bent_words (defScope s_l_bent_words) := ⟨rfl, rfl, rfl, by decide +kernel, rfl, by decide +kernel, by decide +kernel⟩
def d_l_bent_words : He.DefD := ⟨("_law_bent_words", none), "_law_bent_words", "_law_bent_words", defArgs s_l_bent_words, defBody s_l_bent_words, defScope s_l_bent_words, [], []⟩
abbrev s_l_bent_rows : Stmt := top 51
abbrev N_l_bent_rows : List Str := ["_law_m", "_law_rows_here", "_law_some", "_law_way", "_law_at", "_law_other", "_law_new", "_law_words"]
abbrev P_l_bent_rows : List Str := ["_law_m", "_law_rows_here"]
theorem sc_l_bent_rows : FnScope N_l_bent_rows P_l_bent_rows (defScope s_l_bent_rows) := ⟨rfl, rfl, rfl, by decide +kernel, rfl, by decide +kernel, by decide +kernel⟩
def d_l_bent_rows : He.DefD := ⟨("_law_bent_rows", none), "_law_bent_rows", "_law_bent_rows", defArgs s_l_bent_rows, defBody s_l_bent_rows, defScope s_l_bent_rows, [], []⟩
abbrev s_l_right : Stmt := top 52
abbrev N_l_right : List Str := ["_law_text_here"]
abbrev P_l_right : List Str := ["_law_text_here"]
theorem sc_l_right : FnScope N_l_right P_l_right (defScope s_l_right) := ⟨rfl, rfl, rfl, by decide +kernel, rfl, by decide +kernel, by decide +kernel⟩
def d_l_right : He.DefD := ⟨("_law_right", none), "_law_right", "_law_right", defArgs s_l_right, defBody s_l_right, defScope s_l_right, [], []⟩
abbrev s_l_far : Stmt := top 53
abbrev N_l_far : List Str := ["_law_deep", "_law_shared_one", "_law_turn"]
abbrev P_l_far : List Str := []
theorem sc_l_far : FnScope N_l_far P_l_far (defScope s_l_far) := ⟨rfl, rfl, rfl, by decide +kernel, rfl, by decide +kernel, by decide +kernel⟩
def d_l_far : He.DefD := ⟨("_law_far", none), "_law_far", "_law_far", defArgs s_l_far, defBody s_l_far, defScope s_l_far, [], []⟩
abbrev s_l_known : Stmt := top 54
abbrev N_l_known : List Str := ["_law_one", "_law_some"]
abbrev P_l_known : List Str := []
theorem sc_l_known : FnScope N_l_known P_l_known (defScope s_l_known) := ⟨rfl, rfl, rfl, by decide +kernel, rfl, by decide +kernel, by decide +kernel⟩
def d_l_known : He.DefD := ⟨("_law_known", none), "_law_known", "_law_known", defArgs s_l_known, defBody s_l_known, defScope s_l_known, [], []⟩
abbrev s_law : Stmt := top 55
abbrev N_law : List Str := ["_law_script", "_law_m", "_law_people_here", "_law_turn", "_law_rows_here", "_law_time", "_law_text_here"]
abbrev P_law : List Str := ["_law_script"]
theorem sc_law : FnScope N_law P_law (defScope s_law) := ⟨rfl, rfl, rfl, by decide +kernel, rfl, by decide +kernel, by decide +kernel⟩
def d_law : He.DefD := ⟨("law", none), "law", "law", defArgs s_law, defBody s_law, defScope s_law, [], []⟩
def fn : List He.DefD := [d_bt_init, d_is_whole, d_is_name, d_number_of, d_words_of, d_r_init, d_r_first_words, d_r_take_parish, d_r_take_house, d_r_take_held, d_r_take, d_r_whole_county, d_n_init, d_n_refuse, d_n_next_word, d_n_needed, d_n_of_words, d_n_name_unlike, d_n_whole, d_n_over, d_read_county, d_l_mixed, d_l_folded, d_l_draw, d_l_begun, d_l_called, d_l_people, d_l_holdings, d_l_worth, d_l_county, d_l_class, d_l_told, d_l_is_name, d_l_rows, d_l_text, d_l_number_in, d_l_line_in, d_l_held_in, d_l_due, d_l_bent_words, d_l_bent_rows, d_l_right, d_l_far, d_l_known, d_law]
def fa : List He.Fa := [.glo "RollError", .glo "BadName", .glo "BadSum", .glo "BadWeights", .glo "BadHalf", .glo "BadDay", .glo "BadCounty", .glo "BadExcused", .glo "BadAppeal", .glo "BadText", .glo "is_whole", .glo "is_name", .glo "number_of", .glo "words_of", .glo "Rolls", .glo "Line", .glo "read_county", .glo "_law_mixed", .glo "_law_folded", .glo "_law_draw", .glo "_law_begun", .glo "_law_called", .glo "_law_people", .glo "_law_holdings", .glo "_law_worth", .glo "_law_county", .glo "_law_class", .glo "_law_told", .glo "_law_is_name", .glo "_law_rows", .glo "_law_text", .glo "_law_number_in", .glo "_law_line_in", .glo "_law_held_in", .glo "_law_due", .glo "_law_bent_words", .glo "_law_bent_rows", .glo "_law_right", .glo "_law_far", .glo "_law_known", .glo "law", .free "isinstance", .free "str", .free "int", .free "bool", .free "len", .free "all", .free "sum", .free "tuple", .free "repr", .free "range", .free "enumerate", .free "min", .free "max", .free "ValueError", .int "MOST_LETTERS" 8, .int "MOST_FIGURES" 9, .int "LAST_DAY" 360, .int "MOST_WORTH" 9999, .int "MOST_HOLDINGS" 12, .int "MOST_IN_PARISH" 20, .int "MOST_PARISHES" 8, .int "MOST_HOUSES" 60, .str "LETTERS" "abcdefghijklmnopqrstuvwxyz", .str "FIGURES" "0123456789", .glo "BARRED", .cls "Rolls", .mkr "Rolls", .cls "Line", .mkr "Line", .noat "Rolls" "found", .noat "Rolls" "parish_names", .noat "Rolls" "house_names", .noat "Rolls" "worth_told", .noat "Line" "words", .noat "Line" "on_line", .noat "Line" "at", .noat "BadText" "line", .noat "BadText" "word", .meth "Rolls" "first_words", .meth "Rolls" "take_parish", .meth "Rolls" "take_house", .meth "Rolls" "take_held", .meth "Rolls" "take", .meth "Rolls" "whole_county", .meth "Line" "refuse", .meth "Line" "next_word", .meth "Line" "needed", .meth "Line" "of_words", .meth "Line" "name_unlike", .meth "Line" "whole", .meth "Line" "over", .keep "RollError", .keep "BadName", .keep "BadSum", .keep "BadWeights", .keep "BadHalf", .keep "BadDay", .keep "BadCounty", .keep "BadExcused", .keep "BadAppeal", .keep "BadText", .exm "BadText" "RollError" true]
/-- the class C is an exception's class over ValueError, its own __init__ at f -/
def oexB (K : PySem.W.Frag) (C f : Addr) : Bool := (match K.lookup C with
  | some ⟨.type "type", _, .cls cd, sl⟩ => (match cd.mro, sl.toList with
    | .ref C' :: bm, [_, _, _, _, some (.builtin n), _] => C' == C && (n == "ValueError.__new__" && (!cd.hasDel && (cd.hasDict && PySem.HandSPX.refsVE bm)))
    | _, _ => false)
  | _ => false) && (decide (PySem.W.findIn K (.ref C) "__setattr__" = some (some (.builtin "object.__setattr__"))) && (decide (PySem.W.subIn K (.ref C) (.type "BaseException") = some true) && (decide (PySem.W.typeIn K (.ref C) = some (.type "type")) && (PySem.W.keepIn K (.ref C) &&
    (decide (PySem.W.findIn K (.ref C) "__init__" = some (some (.ref f))) && decide (PySem.W.typeIn K (.ref f) = some (.type "function")))))))
theorem oexB_ok {K : PySem.W.Frag} {C f : Addr} (h : oexB K C f = true) : OexC K C ∧ PySem.W.findIn K (.ref C) "__init__" = some (some (.ref f)) ∧ PySem.W.typeIn K (.ref f) = some (.type "function") := by
  obtain ⟨h1, h⟩ := He.ba h
  obtain ⟨h2, h⟩ := He.ba h
  obtain ⟨h3, h⟩ := He.ba h
  obtain ⟨h4, h⟩ := He.ba h
  obtain ⟨h5, h⟩ := He.ba h
  obtain ⟨h6, h7⟩ := He.ba h
  refine ⟨⟨?_, of_decide_eq_true h2, of_decide_eq_true h3, of_decide_eq_true h4, h5⟩, of_decide_eq_true h6, of_decide_eq_true h7⟩
  split at h1
  · rename_i dd cd sl ho
    split at h1
    · rename_i C' bm k0 k1 k2 k3 n k5 hm hs
      simp only [Bool.and_eq_true, beq_iff_eq, Bool.not_eq_true'] at h1
      obtain ⟨rfl, rfl, hdel, hd, hv⟩ := h1
      obtain ⟨nm, bs, mro, ns, qn, hdd, sn, sub, ab, col, del⟩ := cd
      dsimp only at hm hdel hd
      subst hm hdel hd
      have hsl : sl = #[k0, k1, k2, k3, some (.builtin "ValueError.__new__"), k5] := by
        obtain ⟨l⟩ := sl
        simp only at hs
        rw [hs]
      subst hsl
      exact ⟨_, _, _, _, _, _, _, _, _, _, _, _, _, _, _, ho, hv⟩
    · cases h1
  · cases h1
def excB (K : PySem.W.Frag) (D : Addr) : Bool := decide (PySem.W.findIn K (.ref D) "__class__" = some (some (.builtin "object.__class__"))) && (decide (PySem.W.specialIn K (.builtin "object.__class__") "__get__" = some (some (.builtin "getset_descriptor.__get__"))) && (decide (PySem.W.takesIn K (.builtin "object.__class__") = some true) && decide (PySem.W.mroIn K D (.type "object") = some true)))
/-- of which classes a BadText is -/
def kits : List (Str × Bool) := [("RollError", true), ("BadName", false), ("BadSum", false), ("BadWeights", false), ("BadHalf", false), ("BadDay", false), ("BadCounty", false), ("BadExcused", false), ("BadAppeal", false), ("BadText", true)]
def kitB1 (K : PySem.W.Frag) (p : Str × Bool) : Bool := decide (PySem.W.kitOne K (.ref (He.ga K "BadText")) (.ref (He.ga K p.1)) = some p.2)
def more (K : PySem.W.Frag) : Bool := oexB K (He.ga K "BadText") (He.ma K (He.ga K "BadText") "__init__") && (xfB K (He.ga K "BadText") && (excB K (He.ga K "BadText") && (kits.all (kitB1 K) && (decide (PySem.W.kitOne K (.ref (He.ga K "BadText")) (.type "ValueError") = some true) && He.tupB K "BARRED" [.str "parish", .str "house", .str "held"]))))
/-- what the head tells, at the part K and the module's names mg -/
structure Txt (K : PySem.W.Frag) (mg : Str → Option Value) : Prop where
  says : He.SaysD fa fn K
  more : more K = true
  at_ : ∃ h : Heap, K.In h ∧ h.Ns mainGlobals mg
def fdOf (K : PySem.W.Frag) (f : Addr) : FuncData := match K.lookup f with
  | some ⟨_, _, .func fd, _⟩ => fd
  | _ => default
theorem fdOf_eq {K : PySem.W.Frag} {x qual : Str} {params : Arguments} {body : List Stmt} {scope : Scope} {dvs : List V} {kws : List (Str × V)} {f : Addr} {fd : FuncData} (F : FunD K x qual params body scope dvs kws f fd) : FunD K x qual params body scope dvs kws f (fdOf K f) := by
  have e : fdOf K f = fd := by
    obtain ⟨oc, od, dV, kV, doc, pm, an, cdv, ct, osl, rfl, lk, _⟩ := F.ex
    unfold fdOf
    rw [lk]
  rw [e]
  exact F
section
variable {K : PySem.W.Frag} {mg : Str → Option Value}
abbrev a_bt_init (K : PySem.W.Frag) : Addr := He.ma K (He.ga K "BadText") "__init__"
theorem Txt.F_bt_init (T : Txt K mg) : FunD K "__init__" "BadText.__init__" (defArgs s_bt_init) (defBody s_bt_init) (defScope s_bt_init) [] [] (a_bt_init K) (fdOf K (a_bt_init K)) := let ⟨_, F⟩ := T.says.def_ 0 (d := d_bt_init) rfl; fdOf_eq F
theorem Txt.b_bt_init (T : Txt K mg) : Binds K (fdOf K (a_bt_init K)) P_bt_init [] := T.F_bt_init.bindsN fun _ _ _ _ _ _ us hl => match us, hl with | [_, _, _], _ => rfl
abbrev a_is_whole (K : PySem.W.Frag) : Addr := He.ga K "is_whole"
theorem Txt.F_is_whole (T : Txt K mg) : FunD K "is_whole" "is_whole" (defArgs s_is_whole) (defBody s_is_whole) (defScope s_is_whole) [] [] (a_is_whole K) (fdOf K (a_is_whole K)) := let ⟨_, F⟩ := T.says.def_ 1 (d := d_is_whole) rfl; fdOf_eq F
theorem Txt.b_is_whole (T : Txt K mg) : Binds K (fdOf K (a_is_whole K)) P_is_whole [] := T.F_is_whole.bindsN fun _ _ _ _ _ _ us hl => match us, hl with | [_, _, _], _ => rfl
abbrev a_is_name (K : PySem.W.Frag) : Addr := He.ga K "is_name"
theorem Txt.F_is_name (T : Txt K mg) : FunD K "is_name" "is_name" (defArgs s_is_name) (defBody s_is_name) (defScope s_is_name) [] [] (a_is_name K) (fdOf K (a_is_name K)) := let ⟨_, F⟩ := T.says.def_ 2 (d := d_is_name) rfl; fdOf_eq F
theorem Txt.b_is_name (T : Txt K mg) : Binds K (fdOf K (a_is_name K)) P_is_name [] := T.F_is_name.bindsN fun _ _ _ _ _ _ us hl => match us, hl with | [_], _ => rfl
abbrev a_number_of (K : PySem.W.Frag) : Addr := He.ga K "number_of"
theorem Txt.F_number_of (T : Txt K mg) : FunD K "number_of" "number_of" (defArgs s_number_of) (defBody s_number_of) (defScope s_number_of) [] [] (a_number_of K) (fdOf K (a_number_of K)) := let ⟨_, F⟩ := T.says.def_ 3 (d := d_number_of) rfl; fdOf_eq F
theorem Txt.b_number_of (T : Txt K mg) : Binds K (fdOf K (a_number_of K)) P_number_of [] := T.F_number_of.bindsN fun _ _ _ _ _ _ us hl => match us, hl with | [_], _ => rfl
abbrev a_words_of (K : PySem.W.Frag) : Addr := He.ga K "words_of"
theorem Txt.F_words_of (T : Txt K mg) : FunD K "words_of" "words_of" (defArgs s_words_of) (defBody s_words_of) (defScope s_words_of) [] [] (a_words_of K) (fdOf K (a_words_of K)) := let ⟨_, F⟩ := T.says.def_ 4 (d := d_words_of) rfl; fdOf_eq F
theorem Txt.b_words_of (T : Txt K mg) : Binds K (fdOf K (a_words_of K)) P_words_of [] := T.F_words_of.bindsN fun _ _ _ _ _ _ us hl => match us, hl with | [_], _ => rfl
abbrev a_r_init (K : PySem.W.Frag) : Addr := He.ma K (He.ga K "Rolls") "__init__"
theorem Txt.F_r_init (T : Txt K mg) : FunD K "__init__" "Rolls.__init__" (defArgs s_r_init) (defBody s_r_init) (defScope s_r_init) [] [] (a_r_init K) (fdOf K (a_r_init K)) := let ⟨_, F⟩ := T.says.def_ 5 (d := d_r_init) rfl; fdOf_eq F
theorem Txt.b_r_init (T : Txt K mg) : Binds K (fdOf K (a_r_init K)) P_r_init [] := T.F_r_init.bindsN fun _ _ _ _ _ _ us hl => match us, hl with | [_], _ => rfl
abbrev a_r_first_words (K : PySem.W.Frag) : Addr := He.ma K (He.ga K "Rolls") "first_words"
theorem Txt.F_r_first_words (T : Txt K mg) : FunD K "first_words" "Rolls.first_words" (defArgs s_r_first_words) (defBody s_r_first_words) (defScope s_r_first_words) [] [] (a_r_first_words K) (fdOf K (a_r_first_words K)) := let ⟨_, F⟩ := T.says.def_ 6 (d := d_r_first_words) rfl; fdOf_eq F
theorem Txt.b_r_first_words (T : Txt K mg) : Binds K (fdOf K (a_r_first_words K)) P_r_first_words [] := T.F_r_first_words.bindsN fun _ _ _ _ _ _ us hl => match us, hl with | [_], _ => rfl
abbrev a_r_take_parish (K : PySem.W.Frag) : Addr := He.ma K (He.ga K "Rolls") "take_parish"
theorem Txt.F_r_take_parish (T : Txt K mg) : FunD K "take_parish" "Rolls.take_parish" (defArgs s_r_take_parish) (defBody s_r_take_parish) (defScope s_r_take_parish) [] [] (a_r_take_parish K) (fdOf K (a_r_take_parish K)) := let ⟨_, F⟩ := T.says.def_ 7 (d := d_r_take_parish) rfl; fdOf_eq F
theorem Txt.b_r_take_parish (T : Txt K mg) : Binds K (fdOf K (a_r_take_parish K)) P_r_take_parish [] := T.F_r_take_parish.bindsN fun _ _ _ _ _ _ us hl => match us, hl with | [_, _], _ => rfl
abbrev a_r_take_house (K : PySem.W.Frag) : Addr := He.ma K (He.ga K "Rolls") "take_house"
theorem Txt.F_r_take_house (T : Txt K mg) : FunD K "take_house" "Rolls.take_house" (defArgs s_r_take_house) (defBody s_r_take_house) (defScope s_r_take_house) [] [] (a_r_take_house K) (fdOf K (a_r_take_house K)) := let ⟨_, F⟩ := T.says.def_ 8 (d := d_r_take_house) rfl; fdOf_eq F
theorem Txt.b_r_take_house (T : Txt K mg) : Binds K (fdOf K (a_r_take_house K)) P_r_take_house [] := T.F_r_take_house.bindsN fun _ _ _ _ _ _ us hl => match us, hl with | [_, _], _ => rfl
abbrev a_r_take_held (K : PySem.W.Frag) : Addr := He.ma K (He.ga K "Rolls") "take_held"
theorem Txt.F_r_take_held (T : Txt K mg) : FunD K "take_held" "Rolls.take_held" (defArgs s_r_take_held) (defBody s_r_take_held) (defScope s_r_take_held) [] [] (a_r_take_held K) (fdOf K (a_r_take_held K)) := let ⟨_, F⟩ := T.says.def_ 9 (d := d_r_take_held) rfl; fdOf_eq F
theorem Txt.b_r_take_held (T : Txt K mg) : Binds K (fdOf K (a_r_take_held K)) P_r_take_held [] := T.F_r_take_held.bindsN fun _ _ _ _ _ _ us hl => match us, hl with | [_, _], _ => rfl
abbrev a_r_take (K : PySem.W.Frag) : Addr := He.ma K (He.ga K "Rolls") "take"
theorem Txt.F_r_take (T : Txt K mg) : FunD K "take" "Rolls.take" (defArgs s_r_take) (defBody s_r_take) (defScope s_r_take) [] [] (a_r_take K) (fdOf K (a_r_take K)) := let ⟨_, F⟩ := T.says.def_ 10 (d := d_r_take) rfl; fdOf_eq F
theorem Txt.b_r_take (T : Txt K mg) : Binds K (fdOf K (a_r_take K)) P_r_take [] := T.F_r_take.bindsN fun _ _ _ _ _ _ us hl => match us, hl with | [_, _], _ => rfl
abbrev a_r_whole_county (K : PySem.W.Frag) : Addr := He.ma K (He.ga K "Rolls") "whole_county"
theorem Txt.F_r_whole_county (T : Txt K mg) : FunD K "whole_county" "Rolls.whole_county" (defArgs s_r_whole_county) (defBody s_r_whole_county) (defScope s_r_whole_county) [] [] (a_r_whole_county K) (fdOf K (a_r_whole_county K)) := let ⟨_, F⟩ := T.says.def_ 11 (d := d_r_whole_county) rfl; fdOf_eq F
theorem Txt.b_r_whole_county (T : Txt K mg) : Binds K (fdOf K (a_r_whole_county K)) P_r_whole_county [] := T.F_r_whole_county.bindsN fun _ _ _ _ _ _ us hl => match us, hl with | [_, _], _ => rfl
abbrev a_n_init (K : PySem.W.Frag) : Addr := He.ma K (He.ga K "Line") "__init__"
theorem Txt.F_n_init (T : Txt K mg) : FunD K "__init__" "Line.__init__" (defArgs s_n_init) (defBody s_n_init) (defScope s_n_init) [] [] (a_n_init K) (fdOf K (a_n_init K)) := let ⟨_, F⟩ := T.says.def_ 12 (d := d_n_init) rfl; fdOf_eq F
theorem Txt.b_n_init (T : Txt K mg) : Binds K (fdOf K (a_n_init K)) P_n_init [] := T.F_n_init.bindsN fun _ _ _ _ _ _ us hl => match us, hl with | [_, _, _], _ => rfl
abbrev a_n_refuse (K : PySem.W.Frag) : Addr := He.ma K (He.ga K "Line") "refuse"
theorem Txt.F_n_refuse (T : Txt K mg) : FunD K "refuse" "Line.refuse" (defArgs s_n_refuse) (defBody s_n_refuse) (defScope s_n_refuse) [] [] (a_n_refuse K) (fdOf K (a_n_refuse K)) := let ⟨_, F⟩ := T.says.def_ 13 (d := d_n_refuse) rfl; fdOf_eq F
theorem Txt.b_n_refuse (T : Txt K mg) : Binds K (fdOf K (a_n_refuse K)) P_n_refuse [] := T.F_n_refuse.bindsN fun _ _ _ _ _ _ us hl => match us, hl with | [_], _ => rfl
abbrev a_n_next_word (K : PySem.W.Frag) : Addr := He.ma K (He.ga K "Line") "next_word"
theorem Txt.F_n_next_word (T : Txt K mg) : FunD K "next_word" "Line.next_word" (defArgs s_n_next_word) (defBody s_n_next_word) (defScope s_n_next_word) [] [] (a_n_next_word K) (fdOf K (a_n_next_word K)) := let ⟨_, F⟩ := T.says.def_ 14 (d := d_n_next_word) rfl; fdOf_eq F
theorem Txt.b_n_next_word (T : Txt K mg) : Binds K (fdOf K (a_n_next_word K)) P_n_next_word [] := T.F_n_next_word.bindsN fun _ _ _ _ _ _ us hl => match us, hl with | [_], _ => rfl
abbrev a_n_needed (K : PySem.W.Frag) : Addr := He.ma K (He.ga K "Line") "needed"
theorem Txt.F_n_needed (T : Txt K mg) : FunD K "needed" "Line.needed" (defArgs s_n_needed) (defBody s_n_needed) (defScope s_n_needed) [] [] (a_n_needed K) (fdOf K (a_n_needed K)) := let ⟨_, F⟩ := T.says.def_ 15 (d := d_n_needed) rfl; fdOf_eq F
theorem Txt.b_n_needed (T : Txt K mg) : Binds K (fdOf K (a_n_needed K)) P_n_needed [] := T.F_n_needed.bindsN fun _ _ _ _ _ _ us hl => match us, hl with | [_, _, _], _ => rfl
abbrev a_n_of_words (K : PySem.W.Frag) : Addr := He.ma K (He.ga K "Line") "of_words"
theorem Txt.F_n_of_words (T : Txt K mg) : FunD K "of_words" "Line.of_words" (defArgs s_n_of_words) (defBody s_n_of_words) (defScope s_n_of_words) [] [] (a_n_of_words K) (fdOf K (a_n_of_words K)) := let ⟨_, F⟩ := T.says.def_ 16 (d := d_n_of_words) rfl; fdOf_eq F
theorem Txt.b_n_of_words (T : Txt K mg) : Binds K (fdOf K (a_n_of_words K)) P_n_of_words [] := T.F_n_of_words.bindsN fun _ _ _ _ _ _ us hl => match us, hl with | [_, _], _ => rfl
abbrev a_n_name_unlike (K : PySem.W.Frag) : Addr := He.ma K (He.ga K "Line") "name_unlike"
theorem Txt.F_n_name_unlike (T : Txt K mg) : FunD K "name_unlike" "Line.name_unlike" (defArgs s_n_name_unlike) (defBody s_n_name_unlike) (defScope s_n_name_unlike) [] [] (a_n_name_unlike K) (fdOf K (a_n_name_unlike K)) := let ⟨_, F⟩ := T.says.def_ 17 (d := d_n_name_unlike) rfl; fdOf_eq F
theorem Txt.b_n_name_unlike (T : Txt K mg) : Binds K (fdOf K (a_n_name_unlike K)) P_n_name_unlike [] := T.F_n_name_unlike.bindsN fun _ _ _ _ _ _ us hl => match us, hl with | [_, _], _ => rfl
abbrev a_n_whole (K : PySem.W.Frag) : Addr := He.ma K (He.ga K "Line") "whole"
theorem Txt.F_n_whole (T : Txt K mg) : FunD K "whole" "Line.whole" (defArgs s_n_whole) (defBody s_n_whole) (defScope s_n_whole) [] [] (a_n_whole K) (fdOf K (a_n_whole K)) := let ⟨_, F⟩ := T.says.def_ 18 (d := d_n_whole) rfl; fdOf_eq F
theorem Txt.b_n_whole (T : Txt K mg) : Binds K (fdOf K (a_n_whole K)) P_n_whole [] := T.F_n_whole.bindsN fun _ _ _ _ _ _ us hl => match us, hl with | [_, _, _], _ => rfl
abbrev a_n_over (K : PySem.W.Frag) : Addr := He.ma K (He.ga K "Line") "over"
theorem Txt.F_n_over (T : Txt K mg) : FunD K "over" "Line.over" (defArgs s_n_over) (defBody s_n_over) (defScope s_n_over) [] [] (a_n_over K) (fdOf K (a_n_over K)) := let ⟨_, F⟩ := T.says.def_ 19 (d := d_n_over) rfl; fdOf_eq F
theorem Txt.b_n_over (T : Txt K mg) : Binds K (fdOf K (a_n_over K)) P_n_over [] := T.F_n_over.bindsN fun _ _ _ _ _ _ us hl => match us, hl with | [_], _ => rfl
abbrev a_read_county (K : PySem.W.Frag) : Addr := He.ga K "read_county"
theorem Txt.F_read_county (T : Txt K mg) : FunD K "read_county" "read_county" (defArgs s_read_county) (defBody s_read_county) (defScope s_read_county) [] [] (a_read_county K) (fdOf K (a_read_county K)) := let ⟨_, F⟩ := T.says.def_ 20 (d := d_read_county) rfl; fdOf_eq F
theorem Txt.b_read_county (T : Txt K mg) : Binds K (fdOf K (a_read_county K)) P_read_county [] := T.F_read_county.bindsN fun _ _ _ _ _ _ us hl => match us, hl with | [_], _ => rfl
abbrev a_l_mixed (K : PySem.W.Frag) : Addr := He.ga K "_law_mixed"
theorem Txt.F_l_mixed (T : Txt K mg) : FunD K "_law_mixed" "_law_mixed" (defArgs s_l_mixed) (defBody s_l_mixed) (defScope s_l_mixed) [] [] (a_l_mixed K) (fdOf K (a_l_mixed K)) := let ⟨_, F⟩ := T.says.def_ 21 (d := d_l_mixed) rfl; fdOf_eq F
theorem Txt.b_l_mixed (T : Txt K mg) : Binds K (fdOf K (a_l_mixed K)) P_l_mixed [] := T.F_l_mixed.bindsN fun _ _ _ _ _ _ us hl => match us, hl with | [_, _], _ => rfl
abbrev a_l_folded (K : PySem.W.Frag) : Addr := He.ga K "_law_folded"
theorem Txt.F_l_folded (T : Txt K mg) : FunD K "_law_folded" "_law_folded" (defArgs s_l_folded) (defBody s_l_folded) (defScope s_l_folded) [] [] (a_l_folded K) (fdOf K (a_l_folded K)) := let ⟨_, F⟩ := T.says.def_ 22 (d := d_l_folded) rfl; fdOf_eq F
theorem Txt.b_l_folded (T : Txt K mg) : Binds K (fdOf K (a_l_folded K)) P_l_folded [] := T.F_l_folded.bindsN fun _ _ _ _ _ _ us hl => match us, hl with | [_], _ => rfl
abbrev a_l_draw (K : PySem.W.Frag) : Addr := He.ga K "_law_draw"
theorem Txt.F_l_draw (T : Txt K mg) : FunD K "_law_draw" "_law_draw" (defArgs s_l_draw) (defBody s_l_draw) (defScope s_l_draw) [] [] (a_l_draw K) (fdOf K (a_l_draw K)) := let ⟨_, F⟩ := T.says.def_ 23 (d := d_l_draw) rfl; fdOf_eq F
theorem Txt.b_l_draw (T : Txt K mg) : Binds K (fdOf K (a_l_draw K)) P_l_draw [] := T.F_l_draw.bindsN fun _ _ _ _ _ _ us hl => match us, hl with | [_, _], _ => rfl
abbrev a_l_begun (K : PySem.W.Frag) : Addr := He.ga K "_law_begun"
theorem Txt.F_l_begun (T : Txt K mg) : FunD K "_law_begun" "_law_begun" (defArgs s_l_begun) (defBody s_l_begun) (defScope s_l_begun) [] [] (a_l_begun K) (fdOf K (a_l_begun K)) := let ⟨_, F⟩ := T.says.def_ 24 (d := d_l_begun) rfl; fdOf_eq F
theorem Txt.b_l_begun (T : Txt K mg) : Binds K (fdOf K (a_l_begun K)) P_l_begun [] := T.F_l_begun.bindsN fun _ _ _ _ _ _ us hl => match us, hl with | [_], _ => rfl
abbrev a_l_called (K : PySem.W.Frag) : Addr := He.ga K "_law_called"
theorem Txt.F_l_called (T : Txt K mg) : FunD K "_law_called" "_law_called" (defArgs s_l_called) (defBody s_l_called) (defScope s_l_called) [] [] (a_l_called K) (fdOf K (a_l_called K)) := let ⟨_, F⟩ := T.says.def_ 25 (d := d_l_called) rfl; fdOf_eq F
theorem Txt.b_l_called (T : Txt K mg) : Binds K (fdOf K (a_l_called K)) P_l_called [] := T.F_l_called.bindsN fun _ _ _ _ _ _ us hl => match us, hl with | [_, _], _ => rfl
abbrev a_l_people (K : PySem.W.Frag) : Addr := He.ga K "_law_people"
theorem Txt.F_l_people (T : Txt K mg) : FunD K "_law_people" "_law_people" (defArgs s_l_people) (defBody s_l_people) (defScope s_l_people) [] [] (a_l_people K) (fdOf K (a_l_people K)) := let ⟨_, F⟩ := T.says.def_ 26 (d := d_l_people) rfl; fdOf_eq F
theorem Txt.b_l_people (T : Txt K mg) : Binds K (fdOf K (a_l_people K)) P_l_people [] := T.F_l_people.bindsN fun _ _ _ _ _ _ us hl => match us, hl with | [_], _ => rfl
abbrev a_l_holdings (K : PySem.W.Frag) : Addr := He.ga K "_law_holdings"
theorem Txt.F_l_holdings (T : Txt K mg) : FunD K "_law_holdings" "_law_holdings" (defArgs s_l_holdings) (defBody s_l_holdings) (defScope s_l_holdings) [] [] (a_l_holdings K) (fdOf K (a_l_holdings K)) := let ⟨_, F⟩ := T.says.def_ 27 (d := d_l_holdings) rfl; fdOf_eq F
theorem Txt.b_l_holdings (T : Txt K mg) : Binds K (fdOf K (a_l_holdings K)) P_l_holdings [] := T.F_l_holdings.bindsN fun _ _ _ _ _ _ us hl => match us, hl with | [_, _, _], _ => rfl
abbrev a_l_worth (K : PySem.W.Frag) : Addr := He.ga K "_law_worth"
theorem Txt.F_l_worth (T : Txt K mg) : FunD K "_law_worth" "_law_worth" (defArgs s_l_worth) (defBody s_l_worth) (defScope s_l_worth) [] [] (a_l_worth K) (fdOf K (a_l_worth K)) := let ⟨_, F⟩ := T.says.def_ 28 (d := d_l_worth) rfl; fdOf_eq F
theorem Txt.b_l_worth (T : Txt K mg) : Binds K (fdOf K (a_l_worth K)) P_l_worth [] := T.F_l_worth.bindsN fun _ _ _ _ _ _ us hl => match us, hl with | [_], _ => rfl
abbrev a_l_county (K : PySem.W.Frag) : Addr := He.ga K "_law_county"
theorem Txt.F_l_county (T : Txt K mg) : FunD K "_law_county" "_law_county" (defArgs s_l_county) (defBody s_l_county) (defScope s_l_county) [] [] (a_l_county K) (fdOf K (a_l_county K)) := let ⟨_, F⟩ := T.says.def_ 29 (d := d_l_county) rfl; fdOf_eq F
theorem Txt.b_l_county (T : Txt K mg) : Binds K (fdOf K (a_l_county K)) P_l_county [] := T.F_l_county.bindsN fun _ _ _ _ _ _ us hl => match us, hl with | [_, _, _, _], _ => rfl
abbrev a_l_class (K : PySem.W.Frag) : Addr := He.ga K "_law_class"
theorem Txt.F_l_class (T : Txt K mg) : FunD K "_law_class" "_law_class" (defArgs s_l_class) (defBody s_l_class) (defScope s_l_class) [] [] (a_l_class K) (fdOf K (a_l_class K)) := let ⟨_, F⟩ := T.says.def_ 30 (d := d_l_class) rfl; fdOf_eq F
theorem Txt.b_l_class (T : Txt K mg) : Binds K (fdOf K (a_l_class K)) P_l_class [] := T.F_l_class.bindsN fun _ _ _ _ _ _ us hl => match us, hl with | [_], _ => rfl
abbrev a_l_told (K : PySem.W.Frag) : Addr := He.ga K "_law_told"
theorem Txt.F_l_told (T : Txt K mg) : FunD K "_law_told" "_law_told" (defArgs s_l_told) (defBody s_l_told) (defScope s_l_told) [] [] (a_l_told K) (fdOf K (a_l_told K)) := let ⟨_, F⟩ := T.says.def_ 31 (d := d_l_told) rfl; fdOf_eq F
theorem Txt.b_l_told (T : Txt K mg) : Binds K (fdOf K (a_l_told K)) P_l_told [] := T.F_l_told.bindsN fun _ _ _ _ _ _ us hl => match us, hl with | [_], _ => rfl
abbrev a_l_is_name (K : PySem.W.Frag) : Addr := He.ga K "_law_is_name"
theorem Txt.F_l_is_name (T : Txt K mg) : FunD K "_law_is_name" "_law_is_name" (defArgs s_l_is_name) (defBody s_l_is_name) (defScope s_l_is_name) [] [] (a_l_is_name K) (fdOf K (a_l_is_name K)) := let ⟨_, F⟩ := T.says.def_ 32 (d := d_l_is_name) rfl; fdOf_eq F
theorem Txt.b_l_is_name (T : Txt K mg) : Binds K (fdOf K (a_l_is_name K)) P_l_is_name [] := T.F_l_is_name.bindsN fun _ _ _ _ _ _ us hl => match us, hl with | [_], _ => rfl
abbrev a_l_rows (K : PySem.W.Frag) : Addr := He.ga K "_law_rows"
theorem Txt.F_l_rows (T : Txt K mg) : FunD K "_law_rows" "_law_rows" (defArgs s_l_rows) (defBody s_l_rows) (defScope s_l_rows) [] [] (a_l_rows K) (fdOf K (a_l_rows K)) := let ⟨_, F⟩ := T.says.def_ 33 (d := d_l_rows) rfl; fdOf_eq F
theorem Txt.b_l_rows (T : Txt K mg) : Binds K (fdOf K (a_l_rows K)) P_l_rows [] := T.F_l_rows.bindsN fun _ _ _ _ _ _ us hl => match us, hl with | [_], _ => rfl
abbrev a_l_text (K : PySem.W.Frag) : Addr := He.ga K "_law_text"
theorem Txt.F_l_text (T : Txt K mg) : FunD K "_law_text" "_law_text" (defArgs s_l_text) (defBody s_l_text) (defScope s_l_text) [] [] (a_l_text K) (fdOf K (a_l_text K)) := let ⟨_, F⟩ := T.says.def_ 34 (d := d_l_text) rfl; fdOf_eq F
theorem Txt.b_l_text (T : Txt K mg) : Binds K (fdOf K (a_l_text K)) P_l_text [] := T.F_l_text.bindsN fun _ _ _ _ _ _ us hl => match us, hl with | [_], _ => rfl
abbrev a_l_number_in (K : PySem.W.Frag) : Addr := He.ga K "_law_number_in"
theorem Txt.F_l_number_in (T : Txt K mg) : FunD K "_law_number_in" "_law_number_in" (defArgs s_l_number_in) (defBody s_l_number_in) (defScope s_l_number_in) [] [] (a_l_number_in K) (fdOf K (a_l_number_in K)) := let ⟨_, F⟩ := T.says.def_ 35 (d := d_l_number_in) rfl; fdOf_eq F
theorem Txt.b_l_number_in (T : Txt K mg) : Binds K (fdOf K (a_l_number_in K)) P_l_number_in [] := T.F_l_number_in.bindsN fun _ _ _ _ _ _ us hl => match us, hl with | [_, _, _, _], _ => rfl
abbrev a_l_line_in (K : PySem.W.Frag) : Addr := He.ga K "_law_line_in"
theorem Txt.F_l_line_in (T : Txt K mg) : FunD K "_law_line_in" "_law_line_in" (defArgs s_l_line_in) (defBody s_l_line_in) (defScope s_l_line_in) [] [] (a_l_line_in K) (fdOf K (a_l_line_in K)) := let ⟨_, F⟩ := T.says.def_ 36 (d := d_l_line_in) rfl; fdOf_eq F
theorem Txt.b_l_line_in (T : Txt K mg) : Binds K (fdOf K (a_l_line_in K)) P_l_line_in [] := T.F_l_line_in.bindsN fun _ _ _ _ _ _ us hl => match us, hl with | [_, _], _ => rfl
abbrev a_l_held_in (K : PySem.W.Frag) : Addr := He.ga K "_law_held_in"
theorem Txt.F_l_held_in (T : Txt K mg) : FunD K "_law_held_in" "_law_held_in" (defArgs s_l_held_in) (defBody s_l_held_in) (defScope s_l_held_in) [] [] (a_l_held_in K) (fdOf K (a_l_held_in K)) := let ⟨_, F⟩ := T.says.def_ 37 (d := d_l_held_in) rfl; fdOf_eq F
theorem Txt.b_l_held_in (T : Txt K mg) : Binds K (fdOf K (a_l_held_in K)) P_l_held_in [] := T.F_l_held_in.bindsN fun _ _ _ _ _ _ us hl => match us, hl with | [_, _, _], _ => rfl
abbrev a_l_due (K : PySem.W.Frag) : Addr := He.ga K "_law_due"
theorem Txt.F_l_due (T : Txt K mg) : FunD K "_law_due" "_law_due" (defArgs s_l_due) (defBody s_l_due) (defScope s_l_due) [] [] (a_l_due K) (fdOf K (a_l_due K)) := let ⟨_, F⟩ := T.says.def_ 38 (d := d_l_due) rfl; fdOf_eq F
theorem Txt.b_l_due (T : Txt K mg) : Binds K (fdOf K (a_l_due K)) P_l_due [] := T.F_l_due.bindsN fun _ _ _ _ _ _ us hl => match us, hl with | [_], _ => rfl
abbrev a_l_bent_words (K : PySem.W.Frag) : Addr := He.ga K "_law_bent_words"
theorem Txt.F_l_bent_words (T : Txt K mg) : FunD K "_law_bent_words" "_law_bent_words" (defArgs s_l_bent_words) (defBody s_l_bent_words) (defScope s_l_bent_words) [] [] (a_l_bent_words K) (fdOf K (a_l_bent_words K)) := let ⟨_, F⟩ := T.says.def_ 39 (d := d_l_bent_words) rfl; fdOf_eq F
theorem Txt.b_l_bent_words (T : Txt K mg) : Binds K (fdOf K (a_l_bent_words K)) P_l_bent_words [] := T.F_l_bent_words.bindsN fun _ _ _ _ _ _ us hl => match us, hl with | [_, _, _], _ => rfl
abbrev a_l_bent_rows (K : PySem.W.Frag) : Addr := He.ga K "_law_bent_rows"
theorem Txt.F_l_bent_rows (T : Txt K mg) : FunD K "_law_bent_rows" "_law_bent_rows" (defArgs s_l_bent_rows) (defBody s_l_bent_rows) (defScope s_l_bent_rows) [] [] (a_l_bent_rows K) (fdOf K (a_l_bent_rows K)) := let ⟨_, F⟩ := T.says.def_ 40 (d := d_l_bent_rows) rfl; fdOf_eq F
theorem Txt.b_l_bent_rows (T : Txt K mg) : Binds K (fdOf K (a_l_bent_rows K)) P_l_bent_rows [] := T.F_l_bent_rows.bindsN fun _ _ _ _ _ _ us hl => match us, hl with | [_, _], _ => rfl
abbrev a_l_right (K : PySem.W.Frag) : Addr := He.ga K "_law_right"
theorem Txt.F_l_right (T : Txt K mg) : FunD K "_law_right" "_law_right" (defArgs s_l_right) (defBody s_l_right) (defScope s_l_right) [] [] (a_l_right K) (fdOf K (a_l_right K)) := let ⟨_, F⟩ := T.says.def_ 41 (d := d_l_right) rfl; fdOf_eq F
theorem Txt.b_l_right (T : Txt K mg) : Binds K (fdOf K (a_l_right K)) P_l_right [] := T.F_l_right.bindsN fun _ _ _ _ _ _ us hl => match us, hl with | [_], _ => rfl
abbrev a_l_far (K : PySem.W.Frag) : Addr := He.ga K "_law_far"
theorem Txt.F_l_far (T : Txt K mg) : FunD K "_law_far" "_law_far" (defArgs s_l_far) (defBody s_l_far) (defScope s_l_far) [] [] (a_l_far K) (fdOf K (a_l_far K)) := let ⟨_, F⟩ := T.says.def_ 42 (d := d_l_far) rfl; fdOf_eq F
theorem Txt.b_l_far (T : Txt K mg) : Binds K (fdOf K (a_l_far K)) P_l_far [] := T.F_l_far.bindsN fun _ _ _ _ _ _ us hl => match us, hl with | [], _ => rfl
abbrev a_l_known (K : PySem.W.Frag) : Addr := He.ga K "_law_known"
theorem Txt.F_l_known (T : Txt K mg) : FunD K "_law_known" "_law_known" (defArgs s_l_known) (defBody s_l_known) (defScope s_l_known) [] [] (a_l_known K) (fdOf K (a_l_known K)) := let ⟨_, F⟩ := T.says.def_ 43 (d := d_l_known) rfl; fdOf_eq F
theorem Txt.b_l_known (T : Txt K mg) : Binds K (fdOf K (a_l_known K)) P_l_known [] := T.F_l_known.bindsN fun _ _ _ _ _ _ us hl => match us, hl with | [], _ => rfl
abbrev a_law (K : PySem.W.Frag) : Addr := He.ga K "law"
theorem Txt.F_law (T : Txt K mg) : FunD K "law" "law" (defArgs s_law) (defBody s_law) (defScope s_law) [] [] (a_law K) (fdOf K (a_law K)) := let ⟨_, F⟩ := T.says.def_ 44 (d := d_law) rfl; fdOf_eq F
theorem Txt.b_law (T : Txt K mg) : Binds K (fdOf K (a_law K)) P_law [] := T.F_law.bindsN fun _ _ _ _ _ _ us hl => match us, hl with | [_], _ => rfl
theorem Txt.g_RollError (T : Txt K mg) : mg "RollError" = some (.ref (He.ga K "RollError")) := let ⟨_, X, G⟩ := T.at_; He.glo_ok X G (T.says.fact 0 (f := .glo "RollError") rfl)
theorem Txt.g_BadName (T : Txt K mg) : mg "BadName" = some (.ref (He.ga K "BadName")) := let ⟨_, X, G⟩ := T.at_; He.glo_ok X G (T.says.fact 1 (f := .glo "BadName") rfl)
theorem Txt.g_BadSum (T : Txt K mg) : mg "BadSum" = some (.ref (He.ga K "BadSum")) := let ⟨_, X, G⟩ := T.at_; He.glo_ok X G (T.says.fact 2 (f := .glo "BadSum") rfl)
theorem Txt.g_BadWeights (T : Txt K mg) : mg "BadWeights" = some (.ref (He.ga K "BadWeights")) := let ⟨_, X, G⟩ := T.at_; He.glo_ok X G (T.says.fact 3 (f := .glo "BadWeights") rfl)
theorem Txt.g_BadHalf (T : Txt K mg) : mg "BadHalf" = some (.ref (He.ga K "BadHalf")) := let ⟨_, X, G⟩ := T.at_; He.glo_ok X G (T.says.fact 4 (f := .glo "BadHalf") rfl)
theorem Txt.g_BadDay (T : Txt K mg) : mg "BadDay" = some (.ref (He.ga K "BadDay")) := let ⟨_, X, G⟩ := T.at_; He.glo_ok X G (T.says.fact 5 (f := .glo "BadDay") rfl)
theorem Txt.g_BadCounty (T : Txt K mg) : mg "BadCounty" = some (.ref (He.ga K "BadCounty")) := let ⟨_, X, G⟩ := T.at_; He.glo_ok X G (T.says.fact 6 (f := .glo "BadCounty") rfl)
theorem Txt.g_BadExcused (T : Txt K mg) : mg "BadExcused" = some (.ref (He.ga K "BadExcused")) := let ⟨_, X, G⟩ := T.at_; He.glo_ok X G (T.says.fact 7 (f := .glo "BadExcused") rfl)
theorem Txt.g_BadAppeal (T : Txt K mg) : mg "BadAppeal" = some (.ref (He.ga K "BadAppeal")) := let ⟨_, X, G⟩ := T.at_; He.glo_ok X G (T.says.fact 8 (f := .glo "BadAppeal") rfl)
theorem Txt.g_BadText (T : Txt K mg) : mg "BadText" = some (.ref (He.ga K "BadText")) := let ⟨_, X, G⟩ := T.at_; He.glo_ok X G (T.says.fact 9 (f := .glo "BadText") rfl)
theorem Txt.g_is_whole (T : Txt K mg) : mg "is_whole" = some (.ref (He.ga K "is_whole")) := let ⟨_, X, G⟩ := T.at_; He.glo_ok X G (T.says.fact 10 (f := .glo "is_whole") rfl)
theorem Txt.g_is_name (T : Txt K mg) : mg "is_name" = some (.ref (He.ga K "is_name")) := let ⟨_, X, G⟩ := T.at_; He.glo_ok X G (T.says.fact 11 (f := .glo "is_name") rfl)
theorem Txt.g_number_of (T : Txt K mg) : mg "number_of" = some (.ref (He.ga K "number_of")) := let ⟨_, X, G⟩ := T.at_; He.glo_ok X G (T.says.fact 12 (f := .glo "number_of") rfl)
theorem Txt.g_words_of (T : Txt K mg) : mg "words_of" = some (.ref (He.ga K "words_of")) := let ⟨_, X, G⟩ := T.at_; He.glo_ok X G (T.says.fact 13 (f := .glo "words_of") rfl)
theorem Txt.g_Rolls (T : Txt K mg) : mg "Rolls" = some (.ref (He.ga K "Rolls")) := let ⟨_, X, G⟩ := T.at_; He.glo_ok X G (T.says.fact 14 (f := .glo "Rolls") rfl)
theorem Txt.g_Line (T : Txt K mg) : mg "Line" = some (.ref (He.ga K "Line")) := let ⟨_, X, G⟩ := T.at_; He.glo_ok X G (T.says.fact 15 (f := .glo "Line") rfl)
theorem Txt.g_read_county (T : Txt K mg) : mg "read_county" = some (.ref (He.ga K "read_county")) := let ⟨_, X, G⟩ := T.at_; He.glo_ok X G (T.says.fact 16 (f := .glo "read_county") rfl)
theorem Txt.g__law_mixed (T : Txt K mg) : mg "_law_mixed" = some (.ref (He.ga K "_law_mixed")) := let ⟨_, X, G⟩ := T.at_; He.glo_ok X G (T.says.fact 17 (f := .glo "_law_mixed") rfl)
theorem Txt.g__law_folded (T : Txt K mg) : mg "_law_folded" = some (.ref (He.ga K "_law_folded")) := let ⟨_, X, G⟩ := T.at_; He.glo_ok X G (T.says.fact 18 (f := .glo "_law_folded") rfl)
theorem Txt.g__law_draw (T : Txt K mg) : mg "_law_draw" = some (.ref (He.ga K "_law_draw")) := let ⟨_, X, G⟩ := T.at_; He.glo_ok X G (T.says.fact 19 (f := .glo "_law_draw") rfl)
theorem Txt.g__law_begun (T : Txt K mg) : mg "_law_begun" = some (.ref (He.ga K "_law_begun")) := let ⟨_, X, G⟩ := T.at_; He.glo_ok X G (T.says.fact 20 (f := .glo "_law_begun") rfl)
theorem Txt.g__law_called (T : Txt K mg) : mg "_law_called" = some (.ref (He.ga K "_law_called")) := let ⟨_, X, G⟩ := T.at_; He.glo_ok X G (T.says.fact 21 (f := .glo "_law_called") rfl)
theorem Txt.g__law_people (T : Txt K mg) : mg "_law_people" = some (.ref (He.ga K "_law_people")) := let ⟨_, X, G⟩ := T.at_; He.glo_ok X G (T.says.fact 22 (f := .glo "_law_people") rfl)
theorem Txt.g__law_holdings (T : Txt K mg) : mg "_law_holdings" = some (.ref (He.ga K "_law_holdings")) := let ⟨_, X, G⟩ := T.at_; He.glo_ok X G (T.says.fact 23 (f := .glo "_law_holdings") rfl)
theorem Txt.g__law_worth (T : Txt K mg) : mg "_law_worth" = some (.ref (He.ga K "_law_worth")) := let ⟨_, X, G⟩ := T.at_; He.glo_ok X G (T.says.fact 24 (f := .glo "_law_worth") rfl)
theorem Txt.g__law_county (T : Txt K mg) : mg "_law_county" = some (.ref (He.ga K "_law_county")) := let ⟨_, X, G⟩ := T.at_; He.glo_ok X G (T.says.fact 25 (f := .glo "_law_county") rfl)
theorem Txt.g__law_class (T : Txt K mg) : mg "_law_class" = some (.ref (He.ga K "_law_class")) := let ⟨_, X, G⟩ := T.at_; He.glo_ok X G (T.says.fact 26 (f := .glo "_law_class") rfl)
theorem Txt.g__law_told (T : Txt K mg) : mg "_law_told" = some (.ref (He.ga K "_law_told")) := let ⟨_, X, G⟩ := T.at_; He.glo_ok X G (T.says.fact 27 (f := .glo "_law_told") rfl)
theorem Txt.g__law_is_name (T : Txt K mg) : mg "_law_is_name" = some (.ref (He.ga K "_law_is_name")) := let ⟨_, X, G⟩ := T.at_; He.glo_ok X G (T.says.fact 28 (f := .glo "_law_is_name") rfl)
theorem Txt.g__law_rows (T : Txt K mg) : mg "_law_rows" = some (.ref (He.ga K "_law_rows")) := let ⟨_, X, G⟩ := T.at_; He.glo_ok X G (T.says.fact 29 (f := .glo "_law_rows") rfl)
theorem Txt.g__law_text (T : Txt K mg) : mg "_law_text" = some (.ref (He.ga K "_law_text")) := let ⟨_, X, G⟩ := T.at_; He.glo_ok X G (T.says.fact 30 (f := .glo "_law_text") rfl)
theorem Txt.g__law_number_in (T : Txt K mg) : mg "_law_number_in" = some (.ref (He.ga K "_law_number_in")) := let ⟨_, X, G⟩ := T.at_; He.glo_ok X G (T.says.fact 31 (f := .glo "_law_number_in") rfl)
theorem Txt.g__law_line_in (T : Txt K mg) : mg "_law_line_in" = some (.ref (He.ga K "_law_line_in")) := let ⟨_, X, G⟩ := T.at_; He.glo_ok X G (T.says.fact 32 (f := .glo "_law_line_in") rfl)
theorem Txt.g__law_held_in (T : Txt K mg) : mg "_law_held_in" = some (.ref (He.ga K "_law_held_in")) := let ⟨_, X, G⟩ := T.at_; He.glo_ok X G (T.says.fact 33 (f := .glo "_law_held_in") rfl)
theorem Txt.g__law_due (T : Txt K mg) : mg "_law_due" = some (.ref (He.ga K "_law_due")) := let ⟨_, X, G⟩ := T.at_; He.glo_ok X G (T.says.fact 34 (f := .glo "_law_due") rfl)
theorem Txt.g__law_bent_words (T : Txt K mg) : mg "_law_bent_words" = some (.ref (He.ga K "_law_bent_words")) := let ⟨_, X, G⟩ := T.at_; He.glo_ok X G (T.says.fact 35 (f := .glo "_law_bent_words") rfl)
theorem Txt.g__law_bent_rows (T : Txt K mg) : mg "_law_bent_rows" = some (.ref (He.ga K "_law_bent_rows")) := let ⟨_, X, G⟩ := T.at_; He.glo_ok X G (T.says.fact 36 (f := .glo "_law_bent_rows") rfl)
theorem Txt.g__law_right (T : Txt K mg) : mg "_law_right" = some (.ref (He.ga K "_law_right")) := let ⟨_, X, G⟩ := T.at_; He.glo_ok X G (T.says.fact 37 (f := .glo "_law_right") rfl)
theorem Txt.g__law_far (T : Txt K mg) : mg "_law_far" = some (.ref (He.ga K "_law_far")) := let ⟨_, X, G⟩ := T.at_; He.glo_ok X G (T.says.fact 38 (f := .glo "_law_far") rfl)
theorem Txt.g__law_known (T : Txt K mg) : mg "_law_known" = some (.ref (He.ga K "_law_known")) := let ⟨_, X, G⟩ := T.at_; He.glo_ok X G (T.says.fact 39 (f := .glo "_law_known") rfl)
theorem Txt.g_law (T : Txt K mg) : mg "law" = some (.ref (He.ga K "law")) := let ⟨_, X, G⟩ := T.at_; He.glo_ok X G (T.says.fact 40 (f := .glo "law") rfl)
theorem Txt.f_isinstance (T : Txt K mg) : mg "isinstance" = none := let ⟨_, X, G⟩ := T.at_; He.free_ok X G (T.says.fact 41 (f := .free "isinstance") rfl)
theorem Txt.f_str (T : Txt K mg) : mg "str" = none := let ⟨_, X, G⟩ := T.at_; He.free_ok X G (T.says.fact 42 (f := .free "str") rfl)
theorem Txt.f_int (T : Txt K mg) : mg "int" = none := let ⟨_, X, G⟩ := T.at_; He.free_ok X G (T.says.fact 43 (f := .free "int") rfl)
theorem Txt.f_bool (T : Txt K mg) : mg "bool" = none := let ⟨_, X, G⟩ := T.at_; He.free_ok X G (T.says.fact 44 (f := .free "bool") rfl)
theorem Txt.f_len (T : Txt K mg) : mg "len" = none := let ⟨_, X, G⟩ := T.at_; He.free_ok X G (T.says.fact 45 (f := .free "len") rfl)
theorem Txt.f_all (T : Txt K mg) : mg "all" = none := let ⟨_, X, G⟩ := T.at_; He.free_ok X G (T.says.fact 46 (f := .free "all") rfl)
theorem Txt.f_sum (T : Txt K mg) : mg "sum" = none := let ⟨_, X, G⟩ := T.at_; He.free_ok X G (T.says.fact 47 (f := .free "sum") rfl)
theorem Txt.f_tuple (T : Txt K mg) : mg "tuple" = none := let ⟨_, X, G⟩ := T.at_; He.free_ok X G (T.says.fact 48 (f := .free "tuple") rfl)
theorem Txt.f_repr (T : Txt K mg) : mg "repr" = none := let ⟨_, X, G⟩ := T.at_; He.free_ok X G (T.says.fact 49 (f := .free "repr") rfl)
theorem Txt.f_range (T : Txt K mg) : mg "range" = none := let ⟨_, X, G⟩ := T.at_; He.free_ok X G (T.says.fact 50 (f := .free "range") rfl)
theorem Txt.f_enumerate (T : Txt K mg) : mg "enumerate" = none := let ⟨_, X, G⟩ := T.at_; He.free_ok X G (T.says.fact 51 (f := .free "enumerate") rfl)
theorem Txt.f_min (T : Txt K mg) : mg "min" = none := let ⟨_, X, G⟩ := T.at_; He.free_ok X G (T.says.fact 52 (f := .free "min") rfl)
theorem Txt.f_max (T : Txt K mg) : mg "max" = none := let ⟨_, X, G⟩ := T.at_; He.free_ok X G (T.says.fact 53 (f := .free "max") rfl)
theorem Txt.f_ValueError (T : Txt K mg) : mg "ValueError" = none := let ⟨_, X, G⟩ := T.at_; He.free_ok X G (T.says.fact 54 (f := .free "ValueError") rfl)
theorem Txt.i_MOST_LETTERS (T : Txt K mg) : ∃ t, mg "MOST_LETTERS" = some (.int 8 t) := let ⟨_, X, G⟩ := T.at_; He.int_ok X G (T.says.fact 55 (f := .int "MOST_LETTERS" 8) rfl)
theorem Txt.i_MOST_FIGURES (T : Txt K mg) : ∃ t, mg "MOST_FIGURES" = some (.int 9 t) := let ⟨_, X, G⟩ := T.at_; He.int_ok X G (T.says.fact 56 (f := .int "MOST_FIGURES" 9) rfl)
theorem Txt.i_LAST_DAY (T : Txt K mg) : ∃ t, mg "LAST_DAY" = some (.int 360 t) := let ⟨_, X, G⟩ := T.at_; He.int_ok X G (T.says.fact 57 (f := .int "LAST_DAY" 360) rfl)
theorem Txt.i_MOST_WORTH (T : Txt K mg) : ∃ t, mg "MOST_WORTH" = some (.int 9999 t) := let ⟨_, X, G⟩ := T.at_; He.int_ok X G (T.says.fact 58 (f := .int "MOST_WORTH" 9999) rfl)
theorem Txt.i_MOST_HOLDINGS (T : Txt K mg) : ∃ t, mg "MOST_HOLDINGS" = some (.int 12 t) := let ⟨_, X, G⟩ := T.at_; He.int_ok X G (T.says.fact 59 (f := .int "MOST_HOLDINGS" 12) rfl)
theorem Txt.i_MOST_IN_PARISH (T : Txt K mg) : ∃ t, mg "MOST_IN_PARISH" = some (.int 20 t) := let ⟨_, X, G⟩ := T.at_; He.int_ok X G (T.says.fact 60 (f := .int "MOST_IN_PARISH" 20) rfl)
theorem Txt.i_MOST_PARISHES (T : Txt K mg) : ∃ t, mg "MOST_PARISHES" = some (.int 8 t) := let ⟨_, X, G⟩ := T.at_; He.int_ok X G (T.says.fact 61 (f := .int "MOST_PARISHES" 8) rfl)
theorem Txt.i_MOST_HOUSES (T : Txt K mg) : ∃ t, mg "MOST_HOUSES" = some (.int 60 t) := let ⟨_, X, G⟩ := T.at_; He.int_ok X G (T.says.fact 62 (f := .int "MOST_HOUSES" 60) rfl)
theorem Txt.s_LETTERS (T : Txt K mg) : ∃ t, mg "LETTERS" = some (.str "abcdefghijklmnopqrstuvwxyz" t) := let ⟨_, X, G⟩ := T.at_; He.str_ok X G (T.says.fact 63 (f := .str "LETTERS" "abcdefghijklmnopqrstuvwxyz") rfl)
theorem Txt.s_FIGURES (T : Txt K mg) : ∃ t, mg "FIGURES" = some (.str "0123456789" t) := let ⟨_, X, G⟩ := T.at_; He.str_ok X G (T.says.fact 64 (f := .str "FIGURES" "0123456789") rfl)
theorem Txt.g_BARRED (T : Txt K mg) : mg "BARRED" = some (.ref (He.ga K "BARRED")) := let ⟨_, X, G⟩ := T.at_; He.glo_ok X G (T.says.fact 65 (f := .glo "BARRED") rfl)
theorem Txt.c_Rolls (T : Txt K mg) : Cls K (He.ga K "Rolls") := He.cls_ok (T.says.fact 66 (f := .cls "Rolls") rfl)
theorem Txt.mk_Rolls (T : Txt K mg) : Mk K (He.ga K "Rolls") (He.ma K (He.ga K "Rolls") "__init__") := He.mkr_ok (T.says.fact 67 (f := .mkr "Rolls") rfl)
theorem Txt.c_Line (T : Txt K mg) : Cls K (He.ga K "Line") := He.cls_ok (T.says.fact 68 (f := .cls "Line") rfl)
theorem Txt.mk_Line (T : Txt K mg) : Mk K (He.ga K "Line") (He.ma K (He.ga K "Line") "__init__") := He.mkr_ok (T.says.fact 69 (f := .mkr "Line") rfl)
theorem Txt.na_Rolls_found (T : Txt K mg) : NoAttr K (He.ga K "Rolls") "found" := He.noat_ok (T.says.fact 70 (f := .noat "Rolls" "found") rfl)
theorem Txt.na_Rolls_parish_names (T : Txt K mg) : NoAttr K (He.ga K "Rolls") "parish_names" := He.noat_ok (T.says.fact 71 (f := .noat "Rolls" "parish_names") rfl)
theorem Txt.na_Rolls_house_names (T : Txt K mg) : NoAttr K (He.ga K "Rolls") "house_names" := He.noat_ok (T.says.fact 72 (f := .noat "Rolls" "house_names") rfl)
theorem Txt.na_Rolls_worth_told (T : Txt K mg) : NoAttr K (He.ga K "Rolls") "worth_told" := He.noat_ok (T.says.fact 73 (f := .noat "Rolls" "worth_told") rfl)
theorem Txt.na_Line_words (T : Txt K mg) : NoAttr K (He.ga K "Line") "words" := He.noat_ok (T.says.fact 74 (f := .noat "Line" "words") rfl)
theorem Txt.na_Line_on_line (T : Txt K mg) : NoAttr K (He.ga K "Line") "on_line" := He.noat_ok (T.says.fact 75 (f := .noat "Line" "on_line") rfl)
theorem Txt.na_Line_at (T : Txt K mg) : NoAttr K (He.ga K "Line") "at" := He.noat_ok (T.says.fact 76 (f := .noat "Line" "at") rfl)
theorem Txt.na_BadText_line (T : Txt K mg) : NoAttr K (He.ga K "BadText") "line" := He.noat_ok (T.says.fact 77 (f := .noat "BadText" "line") rfl)
theorem Txt.na_BadText_word (T : Txt K mg) : NoAttr K (He.ga K "BadText") "word" := He.noat_ok (T.says.fact 78 (f := .noat "BadText" "word") rfl)
theorem Txt.m_Rolls_first_words (T : Txt K mg) : Meth K (He.ga K "Rolls") "first_words" (He.ma K (He.ga K "Rolls") "first_words") := He.meth_ok (T.says.fact 79 (f := .meth "Rolls" "first_words") rfl)
theorem Txt.m_Rolls_take_parish (T : Txt K mg) : Meth K (He.ga K "Rolls") "take_parish" (He.ma K (He.ga K "Rolls") "take_parish") := He.meth_ok (T.says.fact 80 (f := .meth "Rolls" "take_parish") rfl)
theorem Txt.m_Rolls_take_house (T : Txt K mg) : Meth K (He.ga K "Rolls") "take_house" (He.ma K (He.ga K "Rolls") "take_house") := He.meth_ok (T.says.fact 81 (f := .meth "Rolls" "take_house") rfl)
theorem Txt.m_Rolls_take_held (T : Txt K mg) : Meth K (He.ga K "Rolls") "take_held" (He.ma K (He.ga K "Rolls") "take_held") := He.meth_ok (T.says.fact 82 (f := .meth "Rolls" "take_held") rfl)
theorem Txt.m_Rolls_take (T : Txt K mg) : Meth K (He.ga K "Rolls") "take" (He.ma K (He.ga K "Rolls") "take") := He.meth_ok (T.says.fact 83 (f := .meth "Rolls" "take") rfl)
theorem Txt.m_Rolls_whole_county (T : Txt K mg) : Meth K (He.ga K "Rolls") "whole_county" (He.ma K (He.ga K "Rolls") "whole_county") := He.meth_ok (T.says.fact 84 (f := .meth "Rolls" "whole_county") rfl)
theorem Txt.m_Line_refuse (T : Txt K mg) : Meth K (He.ga K "Line") "refuse" (He.ma K (He.ga K "Line") "refuse") := He.meth_ok (T.says.fact 85 (f := .meth "Line" "refuse") rfl)
theorem Txt.m_Line_next_word (T : Txt K mg) : Meth K (He.ga K "Line") "next_word" (He.ma K (He.ga K "Line") "next_word") := He.meth_ok (T.says.fact 86 (f := .meth "Line" "next_word") rfl)
theorem Txt.m_Line_needed (T : Txt K mg) : Meth K (He.ga K "Line") "needed" (He.ma K (He.ga K "Line") "needed") := He.meth_ok (T.says.fact 87 (f := .meth "Line" "needed") rfl)
theorem Txt.m_Line_of_words (T : Txt K mg) : Meth K (He.ga K "Line") "of_words" (He.ma K (He.ga K "Line") "of_words") := He.meth_ok (T.says.fact 88 (f := .meth "Line" "of_words") rfl)
theorem Txt.m_Line_name_unlike (T : Txt K mg) : Meth K (He.ga K "Line") "name_unlike" (He.ma K (He.ga K "Line") "name_unlike") := He.meth_ok (T.says.fact 89 (f := .meth "Line" "name_unlike") rfl)
theorem Txt.m_Line_whole (T : Txt K mg) : Meth K (He.ga K "Line") "whole" (He.ma K (He.ga K "Line") "whole") := He.meth_ok (T.says.fact 90 (f := .meth "Line" "whole") rfl)
theorem Txt.m_Line_over (T : Txt K mg) : Meth K (He.ga K "Line") "over" (He.ma K (He.ga K "Line") "over") := He.meth_ok (T.says.fact 91 (f := .meth "Line" "over") rfl)
theorem Txt.k_RollError (T : Txt K mg) : PySem.W.keepIn K (.ref (He.ga K "RollError")) = true := He.keep_ok (T.says.fact 92 (f := .keep "RollError") rfl)
theorem Txt.k_BadName (T : Txt K mg) : PySem.W.keepIn K (.ref (He.ga K "BadName")) = true := He.keep_ok (T.says.fact 93 (f := .keep "BadName") rfl)
theorem Txt.k_BadSum (T : Txt K mg) : PySem.W.keepIn K (.ref (He.ga K "BadSum")) = true := He.keep_ok (T.says.fact 94 (f := .keep "BadSum") rfl)
theorem Txt.k_BadWeights (T : Txt K mg) : PySem.W.keepIn K (.ref (He.ga K "BadWeights")) = true := He.keep_ok (T.says.fact 95 (f := .keep "BadWeights") rfl)
theorem Txt.k_BadHalf (T : Txt K mg) : PySem.W.keepIn K (.ref (He.ga K "BadHalf")) = true := He.keep_ok (T.says.fact 96 (f := .keep "BadHalf") rfl)
theorem Txt.k_BadDay (T : Txt K mg) : PySem.W.keepIn K (.ref (He.ga K "BadDay")) = true := He.keep_ok (T.says.fact 97 (f := .keep "BadDay") rfl)
theorem Txt.k_BadCounty (T : Txt K mg) : PySem.W.keepIn K (.ref (He.ga K "BadCounty")) = true := He.keep_ok (T.says.fact 98 (f := .keep "BadCounty") rfl)
theorem Txt.k_BadExcused (T : Txt K mg) : PySem.W.keepIn K (.ref (He.ga K "BadExcused")) = true := He.keep_ok (T.says.fact 99 (f := .keep "BadExcused") rfl)
theorem Txt.k_BadAppeal (T : Txt K mg) : PySem.W.keepIn K (.ref (He.ga K "BadAppeal")) = true := He.keep_ok (T.says.fact 100 (f := .keep "BadAppeal") rfl)
theorem Txt.k_BadText (T : Txt K mg) : PySem.W.keepIn K (.ref (He.ga K "BadText")) = true := He.keep_ok (T.says.fact 101 (f := .keep "BadText") rfl)
theorem Txt.x_BadText_RollError (T : Txt K mg) : PySem.W.exmOne K (.ref (He.ga K "BadText")) (.ref (He.ga K "RollError")) = some true := He.exm_ok (T.says.fact 102 (f := .exm "BadText" "RollError" true) rfl)
/-! ### BadText -/
theorem Txt.oex (T : Txt K mg) : OexC K (He.ga K "BadText") := (oexB_ok (He.ba T.more).1).1
theorem Txt.oexI (T : Txt K mg) : PySem.W.findIn K (.ref (He.ga K "BadText")) "__init__" = some (some (.ref (a_bt_init K))) := (oexB_ok (He.ba T.more).1).2.1
theorem Txt.oexT (T : Txt K mg) : PySem.W.typeIn K (.ref (a_bt_init K)) = some (.type "function") := (oexB_ok (He.ba T.more).1).2.2
theorem Txt.xf (T : Txt K mg) : XfC K (He.ga K "BadText") := xfB_ok (He.ba (He.ba T.more).2).1
theorem Txt.excC (T : Txt K mg) : ExcC K (He.ga K "BadText") := by
  obtain ⟨x, y⟩ := He.ba (He.ba (He.ba T.more).2).2
  obtain ⟨h1, h⟩ := He.ba x
  obtain ⟨h2, h⟩ := He.ba h
  obtain ⟨h3, h4⟩ := He.ba h
  exact ⟨T.xf.ga, T.xf.gg, T.xf.exC, T.xf.hdC, of_decide_eq_true h1, of_decide_eq_true h2, of_decide_eq_true h3, of_decide_eq_true h4⟩
theorem Txt.kit (T : Txt K mg) {p : Str × Bool} (h : p ∈ kits) : PySem.W.kitOne K (.ref (He.ga K "BadText")) (.ref (He.ga K p.1)) = some p.2 := of_decide_eq_true (List.all_eq_true.mp (He.ba (He.ba (He.ba (He.ba T.more).2).2).2).1 p h)
theorem Txt.kitV (T : Txt K mg) : PySem.W.kitOne K (.ref (He.ga K "BadText")) (.type "ValueError") = some true := of_decide_eq_true (He.ba (He.ba (He.ba (He.ba (He.ba T.more).2).2).2).2).1
theorem Txt.barred (T : Txt K mg) (H : Hp) : SqT K H (He.ga K "BARRED") [.str "parish", .str "house", .str "held"] := He.tupB_ok (vs := [.str "parish", .str "house", .str "held"]) (He.ba (He.ba (He.ba (He.ba (He.ba T.more).2).2).2).2).2 H
end
end Pr
end

section
set_option Elab.async false
set_option linter.all false
set_option maxRecDepth 100000
set_option maxHeartbeats 0
namespace Pr
open PySem PySem.Spec PyProof.Rows L2
def tf : List He.Defn := [("_law_right", none)]
abbrev R : PySem.W.OpenRow := PySem.W.OpenLaw.row PySem.Challenge.rw_pennyroll_k41_whole_any_text_of_counties
abbrev hk : PySem.W.Hook := He.hookX 5 fa fn [] tf more
def ob (s : PySem.W.SharedT) : He.AlX := He.obsX 5 fa fn [] tf more (HandSHeadRun.getT s)
theorem ob_eq (s : PySem.W.SharedT) : ob s = hk.obs s.abs := He.obsX_eq (HandSHeadRun.getT_eq s)
def names : List Str := PySem.Challenge.pw_pennyroll_k41_whole_any_text_of_counties.main.scope.names.map (·.1) |>.filter fun x => !(x == "law") && !(x == "__name__")
theorem run (w : World) : HandSHeadRun.RunEq R (PySem.W.view R.prog [55]) hk ob 6000 names w := by
  intro os
  kernel_rfl
end Pr
open PySem PySem.W PySem.Calls PyProof.Rows
theorem Pr.head (call : WalkO (view Pr.R.prog [55]) Pr.names (XL (view Pr.R.prog [55]) []) Pr.hk.says Pr.R.toRowW (HandSHeadRun.topDef Pr.R.prog 55) [] (fun f vs => PySem.call f vs)) : PySem.Challenge.rw_pennyroll_k41_whole_any_text_of_counties.Holds := by
  w_on; o_law
  refine HandSHeadRun.head_any (r := Pr.R) (q := view Pr.R.prog [55]) (H := Pr.hk) (ob := Pr.ob) (M := 6000) (loose := Pr.names) (d := HandSHeadRun.topDef Pr.R.prog 55) (kwd := []) Pr.ob_eq
    (by kernel_rfl) (fun s => by kernel_rfl) Pr.run (by kernel_rfl) (by kernel_rfl) (by kernel_rfl) (by rfl) (by first | assumption | decide +kernel) (by decide +kernel) ⟨rfl, rfl, rfl, rfl, rfl, by decide +kernel⟩ ?hw ?hc
  case hw => w_witness2
  case hc => exact call
end

section
set_option Elab.async false
set_option linter.all false
set_option maxRecDepth 100000
set_option maxHeartbeats 4000000
/-! Rules of my own: lists held against [], texts and tuples times a number, repr of data, an exception that is kept. -/
namespace Pr
open PySem PySem.Spec PyProof.Rows L2
/-! ### a list held against an empty one -/
def rEqN (neg : Bool) (K : PySem.W.Frag) : R2 := fun x y H Q => ∃ (a b : Addr) (xs : List V), x = .ref a ∧ y = .ref b ∧ SqL K H a xs ∧ SqL K H b [] ∧ Q (.bl (if neg then !xs.isEmpty else xs.isEmpty)) H
section
variable {X : Cx}
theorem op_eqN (hu : X.A.units < cLine) : OpR X (compareOp .Eq) (rEqN false X.K) := by
  intro pins s σ H x y v u Q I rx ry h
  obtain ⟨a, b, xs, rfl, rfl, ha, hb, q⟩ := h
  cases rx
  cases ry
  obtain ⟨its, r, pl, _⟩ := I.list ha
  obtain ⟨its2, r2, pl2, _⟩ := I.list hb
  cases r2
  cases xs with
  | nil =>
    cases r
    exact SeqAt.eq_listAt (e := fun _ => true) pl.isList pl2.isList rfl hu (fun j h1 => absurd h1 (by simp)) ⟨.bl _, H, I, rfl, by simpa using q⟩
  | cons y ys =>
    cases r
    exact SeqAt.eq_list_lengthsAt pl.isList pl2.isList (by simp) hu ⟨.bl _, H, I, rfl, by simpa using q⟩
theorem op_neN (hu : X.A.units < cLine) : OpR X (compareOp .NotEq) (rEqN true X.K) := by
  intro pins s σ H x y v u Q I rx ry h
  obtain ⟨a, b, xs, rfl, rfl, ha, hb, q⟩ := h
  cases rx
  cases ry
  obtain ⟨its, r, pl, _⟩ := I.list ha
  obtain ⟨its2, r2, pl2, _⟩ := I.list hb
  cases r2
  cases xs with
  | nil =>
    cases r
    exact SeqAt.RcNeAt.lists (e := fun _ => true) pl.isList pl2.isList rfl hu (fun j h1 => absurd h1 (by simp)) _ _ _ _ ⟨.bl _, H, I, rfl, by simpa using q⟩
  | cons y ys =>
    cases r
    exact SeqAt.RcNeAt.lists_lengths pl.isList pl2.isList (by simp) hu _ _ _ _ ⟨.bl _, H, I, rfl, by simpa using q⟩
/-! ### a text times 0, 1, or a few thousand -/
def timesS (z : Str) (n : Int) : Str := if n < 1 then Str.empty else if (n == 1 || z.length == 0) = true then z else ⟨(List.replicate n.toNat z.cps).foldl (· ++ ·) #[]⟩
theorem rep_size (a : Array Nat) : ∀ (k : Nat) (acc : Array Nat), ((List.replicate k a).foldl (· ++ ·) acc).size = acc.size + k * a.size
  | 0, acc => by simp
  | k + 1, acc => by
    rw [List.replicate_succ, List.foldl_cons, rep_size a k, Array.size_append, Nat.succ_mul]
    omega
def rMulS : R2 := fun x y H Q => ∃ (z : Str) (n : Int), x = .str z ∧ y = .int n ∧ 0 ≤ n ∧ n ≤ 10000 ∧ z.length ≤ 100 ∧ Q (.str (timesS z n)) H
theorem op_mulS : OpR X (binaryOp .Mult) rMulS := by
  intro pins s σ H x y v u Q I rx ry h
  obtain ⟨z, n, rfl, rfl, h0, h1, hz, q⟩ := h
  obtain ⟨t, rfl⟩ := rx
  obtain ⟨t', rfl⟩ := ry
  have hn : n.toNat ≤ 10000 := by omega
  have hm : z.length * n.toNat ≤ 100 * 10000 := Nat.mul_le_mul hz hn
  have e1 : (decide (n < -(2 ^ 63 : Int)) || decide (n ≥ 2 ^ 63)) = false := by
    rw [decide_eq_false (by omega), decide_eq_false (by omega)] <;> rfl
  refine PySem.P.mul_str e1 (fun a b c => ?_) (fun a b => ?_) ?_
  · have hd : (100 : Int) ≤ (2 ^ 63 - 1) / n := Int.le_ediv_of_mul_le (by omega) (by omega)
    omega
  · unfold Builtin.Str.tooLong
    first
      | exact decide_eq_false (by rw [sizeLine_eq]; omega)
      | simp only [sizeLine_eq]; exact decide_eq_false (by omega)
  · unfold timesS at q
    by_cases c1 : n < 1
    · rw [if_pos c1] at q ⊢
      exact ⟨by decide, .str _, H, I.tok _, ⟨_, rfl⟩, q⟩
    · rw [if_neg c1] at q ⊢
      by_cases c2 : (n == 1 || z.length == 0) = true
      · rw [if_pos c2] at q ⊢
        exact ⟨.str _, H, I, ⟨_, rfl⟩, q⟩
      · rw [if_neg c2] at q ⊢
        refine ⟨?_, .str _, H, I.tok _, ⟨_, rfl⟩, q⟩
        have e := rep_size z.cps n.toNat #[]
        have e2 : ((⟨(List.replicate n.toNat z.cps).foldl (· ++ ·) #[]⟩ : Str)).length = n.toNat * z.length := by
          show ((List.replicate n.toNat z.cps).foldl (· ++ ·) #[]).size = _
          rw [e]
          simp [Str.length]
        rw [e2, Nat.mul_comm, sizeLine_eq]
        omega
theorem timesS_len (z : Str) (n : Int) (h : 0 ≤ n) : (timesS z n).length = z.length * n.toNat := by
  unfold timesS
  by_cases c1 : n < 1
  · rw [if_pos c1, show n.toNat = 0 by omega]
    rfl
  · rw [if_neg c1]
    by_cases c2 : (n == 1 || z.length == 0) = true
    · rw [if_pos c2]
      rcases Bool.or_eq_true_iff.mp c2 with e | e
      · rw [eq_of_beq e]
        simp
      · rw [eq_of_beq e]
        simp
    · rw [if_neg c2]
      show ((List.replicate n.toNat z.cps).foldl (· ++ ·) #[]).size = _
      rw [rep_size, Nat.mul_comm]
      simp [Str.length]
theorem timesS_0 (z : Str) : timesS z 0 = Str.empty := rfl
theorem timesS_1 (z : Str) : timesS z 1 = z := rfl
end
/-! ### a short tuple times a few thousand -/
def rRepT5 (K : PySem.W.Frag) : R2 := fun x y H Q => ∃ (l : Addr) (k : Int) (xs : List V), x = .ref l ∧ y = .int k ∧ SqT K H l xs ∧ xs ≠ [] ∧ 2 ≤ k ∧ k ≤ 10000 ∧ xs.length ≤ 100 ∧ ∀ p, H p = none → Q (.ref p) (upd H p (.tup (List.replicate k.toNat xs).flatten))
section
variable {X : Cx}
theorem op_repT5 : OpR X (binaryOp .Mult) (rRepT5 X.K) := by
  intro pins s σ H x y v u Q I rx ry h
  obtain ⟨l, k, xs, rfl, rfl, hT, hne, h1, h2, hz, q⟩ := h
  cases rx
  obtain ⟨t, rfl⟩ := ry
  obtain ⟨its, r, ⟨ob, ho, hc, n, hd⟩, _⟩ := I.tuple hT
  obtain ⟨cls, dd, data, sl⟩ := ob
  simp only at hc hd
  subst hc hd
  have hlen : its.length = xs.length := r.length.symm
  obtain ⟨i0, ir, rfl⟩ : ∃ i0 ir, its = i0 :: ir := by
    cases its with
    | nil => exact absurd (List.eq_nil_of_length_eq_zero hlen.symm) hne
    | cons a b => exact ⟨a, b, rfl⟩
  have kn : k.toNat ≤ 10000 := by omega
  have hprod : k.toNat * (i0 :: ir).length ≤ 10000 * 100 := Nat.mul_le_mul kn (by omega)
  have flat_le : (List.replicate k.toNat (i0 :: ir)).flatten.length ≤ sizeLine := by
    rw [PyProof.Rows.lm_len_rep_flat, sizeLine_eq]
    omega
  have hprodI : (((i0 :: ir).toArray.size : Nat) : Int) * k ≤ 1000000 := by
    have e : (((i0 :: ir).toArray.size : Nat) : Int) * k = ((k.toNat * (i0 :: ir).length : Nat) : Int) := by
      rw [List.size_toArray, Int.natCast_mul, Int.toNat_of_nonneg (by omega), Int.mul_comm]
    rw [e]
    omega
  have g0 : (decide (k < -(2 ^ 63)) || decide (k ≥ 2 ^ 63)) = false := by
    rw [decide_eq_false (by omega), decide_eq_false (by omega)] <;> rfl
  have g1 : ((i0 :: ir).toArray.isEmpty || k == 1) = false := by
    rw [show (i0 :: ir).toArray.isEmpty = false from rfl, Bool.false_or]
    exact beq_eq_false_iff_ne.mpr (by omega)
  have g2 : (decide (k ≤ 0) || (i0 :: ir).toArray.isEmpty) = false := by
    rw [show (i0 :: ir).toArray.isEmpty = false from rfl, Bool.or_false]
    exact decide_eq_false (by omega)
  have g4 : Builtin.Tuple.tupleTooMany ((((i0 :: ir).toArray.size : Nat) : Int) * k) = false := by
    unfold Builtin.Tuple.tupleTooMany
    rw [sizeLine_eq]
    exact decide_eq_false (by omega)
  have mul := L2.tuple_mulW l (i0 :: ir).toArray n dd sl k t g0 g1 g2 (by omega) g4 (by rw [L2.size_rep, List.size_toArray]; exact flat_le)
  have rmul := L2.int_rmul_tuple k t l (i0 :: ir).toArray n dd sl
  refine wpAny_binaryOp_repeat_ref (T := "tuple") (U := "int") (by decide) ⟨_, ho, rfl⟩ (fun z => typeIs_int z k t) L2.noFill_tuple_mul F.fills_int_mul F.slot_int_rmul L2.repeat_tuple F.slot_int_index.lookup
    (call_meets F.slot_int_rmul (typeIs_int s k t) F.entry_int_rmul (F.args_int_rmul_2 _ _) rmul ⟨ho, rfl, ⟨_, ho, rfl⟩, call_meets F.slot_tuple_mul ⟨_, ho, rfl⟩ F.entry_tuple_mul (F.args_tuple_mul_2 _ _) mul ⟨ho, ?_⟩⟩)
  rw [L2.size_rep]
  have new : H s.heap.objs.size = none := I.hok.fresh (Nat.le_refl _)
  refine ⟨.ref s.heap.objs.size, _, I.laid (t' := s.toks) (o := .tup (List.replicate k.toNat xs).flatten) (fun b ob e => Heap.get?_push_of_some _ e) (Nat.le_refl _) ⟨?_, _, r.rep k.toNat, IsTup.new _ _⟩, rfl, q _ new⟩
  rw [PyProof.Rows.lm_len_rep_flat, ← hlen, sizeLine_eq]
  omega
end
end Pr
end

section
set_option Elab.async false
set_option linter.all false
set_option maxRecDepth 100000
set_option maxHeartbeats 4000000
/-! An exception that a name keeps behind its except suite: it is tracked, asked by isinstance, its fields are read. repr of data. Calls with known guards. -/
namespace Pr
open PySem PySem.Spec PyProof.Rows L2
/-- at a: an exception's object of the class cls, its own dict at d -/
def ExK (cls : Value) (d : Option Addr) (a : Addr) : HO := .ext fun h => ∃ (oe : Obj) (vs : Array Value), h.get? a = some oe ∧ Zc cls d oe ∧ oe.data = .fields vs
theorem exK_ok {P : Program} {w : World} {H : Hp} {h : Heap} {a : Addr} {cls : Value} {d : Option Addr} {oe : Obj} {vs : Array Value} (e : h.get? a = some oe) (z : Zc cls d oe) (f : oe.data = .fields vs) : ObjOk P w H h a (ExK cls d a) :=
  ⟨⟨oe, vs, e, z, f⟩, ⟨oe, e⟩, fun _ _ ⟨o, v, q, r⟩ k => ⟨o, v, k o q, r⟩⟩
theorem exK_at {P : Program} {w : World} {H : Hp} {h : Heap} {a : Addr} {cls : Value} {d : Option Addr} (hok : HOk P w H h) (e : H a = some (ExK cls d a)) : ∃ (oe : Obj) (vs : Array Value), h.get? a = some oe ∧ Zc cls d oe ∧ oe.data = .fields vs := by
  have x : ObjOk P w H h a (.ext fun h => ∃ (oe : Obj) (vs : Array Value), h.get? a = some oe ∧ Zc cls d oe ∧ oe.data = .fields vs) := hok a _ e
  exact x.1
section
variable {X : Cx} {pins : List (Addr × Obj)} {σ : L2.St} {H : Hp} {s : Shared}
/-- the exception as an instance with its dict -/
theorem exK_inst {D a dd : Addr} {fs : List (Str × V)} (I : Inv X pins σ H s) (e : H a = some (ExK (.ref D) (some dd) a)) (ed : H dd = some (.xd fs)) :
    ∃ (oe od : Obj) (mA : Str → Option Value), PySem.W.InstAt s.heap a oe D (some od) ∧ (∀ n, PySem.W.lookIn n od = some (mA n)) ∧ ∀ f, RelO (fs.lookup f) (mA f) := by
  obtain ⟨oe, vs, he, hz, hv⟩ := exK_at I.hok e
  obtain ⟨mA, hns, hr⟩ := (show ObjOk X.prog X.w H s.heap dd (.xd fs) from I.hok dd _ ed)
  obtain ⟨od, ho, hl⟩ := lookIn_ns hns
  exact ⟨oe, od, mA, ⟨he, hz.1, by unfold PySem.W.notCls; rw [hv] <;> rfl, by rw [hz.2]; exact ho⟩, hl, hr⟩
end
def rIsK (K : PySem.W.Frag) (D : Addr) : List V → Hp → VK → Prop := fun xs H Q => ∃ (a dd : Addr) (fs : List (Str × V)) (c : V) (cv : Value) (b : Bool), xs = [.ref a, c] ∧ H a = some (ExK (.ref D) (some dd) a) ∧ H dd = some (.xd fs) ∧ (∀ u, RelV c u → u = cv) ∧ PySem.W.kitOne K (.ref D) cv = some b ∧ Q (.bl b) H
section
variable {X : Cx}
theorem call_isK {D : Addr} (C : ExcC X.K D) : CallR X (.builtin "isinstance") (rIsK X.K D) := by
  intro pins s σ H xs us Q I r h
  obtain ⟨a, dd, fs, c, cv, b, rfl, ea, ed, hcv, e, q⟩ := h
  cases r with
  | cons rx rr =>
    cases rr with
    | cons rt rr =>
      cases rr
      cases rx
      have ec := hcv _ rt
      subst ec
      obtain ⟨oe, od, mA, J, _, _⟩ := exK_inst I ea ed
      have hcl : (PySem.W.clsIn X.K D).isSome = true := by
        obtain ⟨cd, hc, _⟩ := PySem.W.any_some C.hd
        rw [hc]
        rfl
      exact PySem.W.kia_one (PySem.W.kitx_exc hcl C.hg C.hk C.hs C.ha C.hn C.ht C.hm) I.kIn J e (fun z => nomatch z) fun tk => ⟨.bl b, H, I.kept (t' := tk) fun _ _ z => z, rfl, q⟩
/-- err.f, err kept -/
def tKx (D : Addr) (f : Str) (te : TE) : TE := fun σ H Q => te σ H fun x H1 => ∃ (a dd : Addr) (fs : List (Str × V)) (v : V), x = .ref a ∧ H1 a = some (ExK (.ref D) (some dd) a) ∧ H1 dd = some (.xd fs) ∧ fs.lookup f = some v ∧ Q v H1
theorem pe_kx {D : Addr} {e : Expr} {te : TE} {pos : Pos} {n : Str} (T : XfC X.K D) (hno : PySem.W.findIn X.K (.ref D) n = some none) (he : PE X e te) (hb : attributeBase e n X.env (eval e X.env) = eval e X.env := by rfl) : PE X (.Attribute e n pos) (tKx D n te) := by
  refine ⟨fun pins s σ H Q I h => ?_⟩
  refine attr_of hb (thn (he.run pins s σ H _ I h) fun u s1 hh => ?_)
  obtain ⟨x, H1, I1, rx, a, dd, fs, v, ex, ea, ed, l, q⟩ := hh
  subst ex
  obtain rfl : u = Value.ref a := rx
  obtain ⟨oe, od, mA, J, hl, hr⟩ := exK_inst I1 ea ed
  obtain ⟨u, hu, ru⟩ := RelO.some_of (v := v) (o := mA n) (by rw [← l]; exact hr n)
  exact HandSPX.exc_get I1.kIn J T.ga T.gg T.exC (PySem.W.findObj_own T.hdC hno rfl (by rw [hl, hu])) (handed_of ru) ⟨v, H1, I1.tok _, ru, q⟩
/-! ### repr of data -/
def rRepr (K : PySem.W.Frag) : List V → Hp → VK → Prop := fun vs H Q => ∃ (a : Addr) (d : PyData), vs = [.ref a] ∧ Dp K H (.ref a) d ∧ d.showable = true ∧ d.hasDict = false ∧ d.depth ≤ 60 ∧ d.shown.length ≤ sizeLine ∧ Q (.str d.shown) H
theorem call_reprD (hg : X.A.guards = some []) (hu : X.A.units + 64 < cLine) : CallR X (.builtin "repr") (rRepr X.K) := by
  intro pins s σ H xs us Q I r h
  obtain ⟨a, d, rfl, hd, hs, hn, hz, hl, q⟩ := h
  cases r with
  | cons rx rr =>
    cases rr
    cases rx
    obtain ⟨as, rd⟩ := Dp.reads I d _ _ hd rfl
    exact repr_of_reads' rd hs (PyData.noDict_hsm hn) hg (by omega) (fun _ _ e => e) (fun h' u tk k => ⟨.str _, H, I.kept k, ⟨_, rfl⟩, q⟩) hl
end
end Pr
end

section
set_option Elab.async false
set_option linter.all false
set_option maxRecDepth 100000
set_option maxHeartbeats 4000000
/-! try: body, except x as n: y = n. Behind it the exception is tracked. -/
namespace Pr
open PySem PySem.Spec PyProof.Rows L2
section
variable {X : Cx} {pins : List (Addr × Obj)} {σ : L2.St} {H : Hp} {s : Shared}
/-- a pinned exception that is younger than the def's entry is tracked from now on -/
theorem Inv.track {a : Addr} {oe : Obj} {vs : Array Value} {cls : Value} {d : Option Addr} (I : Inv X ((a, oe) :: pins) σ H s) (hz : Zc cls d oe) (hd : oe.data = .fields vs) (n0 : X.s_0.heap.get? a = none) (np : ∀ p ∈ X.pn ++ pins, p.1 ≠ a) :
    Inv X pins σ (upd H a (ExK cls d a)) s := by
  obtain ⟨ha, na, nL, nF, _⟩ := I.pin (a, oe) (List.mem_append_right _ List.mem_cons_self)
  have ne0 : ∀ b o, X.s_0.heap.get? b = some o → b ≠ a := fun b o e z => by
    rw [z, n0] at e
    cases e
  have neU : ∀ b u, H b = some u → b ≠ a := fun b u e => ne_of_none e na
  have neC : ∀ x c, X.env.cells.lookup x = some c → c ≠ a := fun x c e z => by
    obtain ⟨v, o, ho, hc⟩ := I.cell x c e
    have ha' : s.heap.get? a = some oe := ha
    rw [z, ha'] at ho
    cases ho
    rw [hd] at hc
    cases hc
  refine ⟨I.ok, I.os, I.bare, ⟨I.base.keep, I.base.slot, fun b o e n hx => ?_, I.base.there, fun b xs e => ?_, fun b o u e => ?_, fun b ps e => ?_⟩, I.loc, I.cell, ?_, fun x c e => ?_, fun p hp => ?_, fun b u e => ?_, I.len⟩
  · rw [upd_ne (ne0 b o e)]
    exact I.base.free b o e n hx
  · have q := I.base.tups b xs e
    rw [upd_ne (neU b _ q)]
    exact q
  · have q := I.base.frzs b o u e
    rw [upd_ne (neU b _ q)]
    exact q
  · obtain ⟨m, q⟩ := I.base.tbls b ps e
    exact ⟨m, by rw [upd_ne (neU b _ q)]; exact q⟩
  · rw [upd_ne (Ne.symm nL)]
    exact I.free
  · rw [upd_ne (neC x c e)]
    exact I.freeC x c e
  · obtain ⟨e, n, r⟩ := I.pin p (by
      rcases List.mem_append.mp hp with h | h
      · exact List.mem_append_left _ h
      · exact List.mem_append_right _ (List.mem_cons_of_mem _ h))
    exact ⟨e, by rw [upd_ne (np p hp)]; exact n, r⟩
  · by_cases hb : b = a
    · subst hb
      rw [upd_same] at e
      cases e
      exact exK_ok ha hz hd
    · rw [upd_ne hb] at e
      exact (I.hok b u e).stay (fun c v _ q => q) (fun c q => by rw [upd_ne (neU c _ q)]; exact q) fun c xs q => by rw [upd_ne (neU c _ q)]; exact q
end
/-- what the clause wishes of an exception of the body: slot i is the clause's name, slot j keeps it -/
def wKeep (K : PySem.W.Frag) (c : Value) (i j : Nat) (Wout : WX) (D : Ends) : WX := fun cls d σ H =>
  ∃ b, PySem.W.exmOne K cls c = some b ∧ (b = true → ∀ a, H a = none → D.nx (((σ.set i (some (.ref a))).set j (some (.ref a))).set i none) (upd H a (ExK cls d a))) ∧ (b = false → Wout cls d σ H)
section
variable {X : Cx} {x n y : Str} {c : Value} {i j : Nat} {body : List Stmt} {np pos pos' yp ep ap : Pos} {tb : WX → TS} {Wout : WX}
theorem ps_try_keep (hs : X.stack = X.env :: X.outer) (hf : X.env.frame = some X.env.locals) (hex : X.ex = []) (hN : X.N.Nodup) (hi : X.N[i]? = some n) (hln : X.env.kindOf n = some .local) (hj : X.N[j]? = some y) (hly : X.env.kindOf y = some .local) (hc : Names X x c) (tk : Takes X Wout)
    (hdn : (n == ("__debug__" : Str)) = false) (hcn : (n == ("__classdict__" : Str)) = false)
    (hb : ∀ (W : WX) (pn : List (Addr × Obj)) (xe : Value → Shared → Prop), Takes (X.tr pn xe) W → PassesOwn (model X.prog X.w) X.A X.env xe → PSs (X.tr pn xe) body (tb W)) :
    PS X (.Try body [.ExceptHandler (some (.Name x np)) (some n) [.Assign [.Name y yp] (.Name n ep) ap] pos'] [] [] pos) (fun D σ H => tb (wKeep X.K c i j Wout D) D σ H) := by
  refine ⟨fun pins s σ H D I h => ?_⟩
  have ok := I.ok
  have hfr : X.A.frames = some (X.env :: X.outer) := by rw [ok.frames, hs]
  have caught : Takes (X.tr (X.pn ++ pins) (fun e s₁ => wpAny (model X.prog X.w) X.A (noteFrame e X.env) (fun _ s₂ => wpAny (model X.prog X.w) X.A (setFlight e none) (fun _ s₃ =>
    wpAny (model X.prog X.w) X.A (handleBy e X.env [.ExceptHandler (some (.Name x np)) (some n) [.Assign [.Name y yp] (.Name n ep) ap] pos']) (SP X pins D) X.xe s₃) X.xe s₂) X.xe s₁)) (wKeep X.K c i j Wout D) := by
    intro u s' xx
    obtain ⟨a, B, sI, pins', σ', H', cls, d, rfl, J', nb, up, sky, na, os, ag, b, hb1, hyes, hno⟩ := xx
    have J : Inv X pins σ' H' sI := J'.ofTry ok
    rw [show (X.tr (X.pn ++ pins) _).stack = X.env :: X.outer from hs] at sky
    show wpAny (model X.prog X.w) X.A (noteFrame (.ref a) X.env) _ _ _
    refine Sky.land Zc.steady hfr hf sky fun h3 fl3 up3 => ?_
    have J3 : Inv X pins σ' H' { s' with heap := h3 } := J.landed nb fl3.1 (up.trans up3) os ag
    obtain ⟨oe3, vs3, he3, hz3, hd3⟩ := fl3.there
    have nfr : a ∉ frs (X.env :: X.outer) := fun hm => by
      obtain ⟨_, o', e', hnf⟩ := fl3.2.2.1.mem hm
      rw [he3] at e'
      cases e'
      exact hnf _ hd3
    have nL : a ≠ X.env.locals := fun z => nfr (List.mem_filterMap.mpr ⟨X.env, List.mem_cons_self, by rw [hf, z]⟩)
    have nF : a ∉ X.fs := fun hm => by
      obtain ⟨e, he, q⟩ := List.mem_filterMap.mp hm
      exact nfr (List.mem_filterMap.mpr ⟨e, List.mem_cons_of_mem _ he, q⟩)
    -- the exception is younger than all that stood
    have aI : sI.heap.get? a = none := by
      cases q : sI.heap.get? a with
      | none => rfl
      | some o =>
        have z := nb a o q (by rw [show (X.tr (X.pn ++ pins) _).stack = X.env :: X.outer from hs]; exact nfr)
        rw [fl3.2.1] at z
        cases z
    have a0 : X.s_0.heap.get? a = none := by
      cases q : X.s_0.heap.get? a with
      | none => rfl
      | some o =>
        obtain ⟨o', z⟩ := J.base.there a o q (by rw [hex]; exact fun z => nomatch z)
        rw [aI] at z
        cases z
    have aP : ∀ p ∈ X.pn ++ pins, p.1 ≠ a := fun p hp z => by
      have e := (J.pin p hp).1
      rw [z, aI] at e
      cases e
    have S3 := J3.suite he3 hd3 na nL nF
    refine wpAny_handleBy_cons (codeAny_handlers_test ?_) (by intro q; cases q)
    have LT : PySem.W.Looks (model X.prog X.w) h3 (typeOf (.ref a)) cls := fun A Q E s k q => wpAny_typeOf_ref (k _ _ he3) (by rw [hz3.1]; exact q)
    have LM := PySem.W.exm_one (M := model X.prog X.w) (J3.kIn) LT hb1
    have test : ∀ {Q : Value → Shared → Prop} {E : Value → Shared → Prop}, Q c { s' with heap := h3 } → wpAny (model X.prog X.w) (X.A.mark (some (.ref a))) (eval (.Name x np) X.env) Q E { s' with heap := h3 } := fun {Q E} q => by
      obtain ⟨hg, hdbg, hm | ⟨hm, hv, hnn⟩⟩ := hc
      · exact ld_glob (X := X.suite a ((a, oe3) :: (X.pn ++ pins))) S3 hg hm q hdbg
      · exact ld_blt (X := X.suite a ((a, oe3) :: (X.pn ++ pins))) S3 hg hm hv q hnn hdbg
    refine test (LM.here ?_)
    cases b with
    | true =>
      refine codeAny_handlers_suite_as ?_
      refine HandSPX.lands_againZ fl3 fun h4 fl4 up4 => ?_
      have J4 : Inv X pins σ' H' { s' with heap := h4 } := J.landed nb fl4.1 ((up.trans up3).trans up4) os ag
      obtain ⟨oe4, vs4, he4, hz4, hd4⟩ := fl4.there
      have S4 := J4.suite he4 hd4 na nL nF
      have lσ : i < σ'.length := by rw [J.len]; exact (List.getElem?_eq_some_iff.mp hi).1
      refine store_ok (X := X.suite a ((a, oe4) :: (X.pn ++ pins))) (v := .ref a) S4 hN hi (.inl hln) rfl (fun s5 S5 => ?_) (.inr hln)
      have stm : PSs (X.suite a ((a, oe4) :: (X.pn ++ pins))) [.Assign [.Name y yp] (.Name n ep) ap] (tAsg (tVar i) (gName j)) := pss_one (ps_asg (pe_var hi (.inl hln) hdn hcn) (pg_name hN hj (.inl hly) (.inr hly)))
      refine wpAny_mono (stm.run [] s5 _ H' { nx := fun σ6 H6 => σ6 = (σ'.set i (some (.ref a))).set j (some (.ref a)) ∧ H6 = H', rt := fun _ _ => False } S5 ⟨.ref a, List.getElem?_set_self lσ, rfl, rfl⟩) (fun f s6 hsp => ?_) (fun _ _ z => False.elim z)
      cases f with
      | next =>
        obtain ⟨σ6, H6, S6, rfl, rfl⟩ := hsp
        have P6 : Inv X ((a, oe4) :: pins) ((σ'.set i (some (.ref a))).set j (some (.ref a))) H6 s6 := by
          refine (S6.unsuite ok).pins_of fun p hp => ?_
          rcases List.mem_cons.mp hp with e | h
          · rw [e]
            exact S6.pin (a, oe4) (List.mem_append_left _ List.mem_cons_self)
          · exact S6.pin p (List.mem_append_left _ (List.mem_cons_of_mem _ (List.mem_append_right _ h)))
        exact gone_ok P6 hN hi hln fun s7 J7 => ⟨_, _, Inv.track J7 hz4 hd4 a0 aP, hyes rfl a na⟩
      | brk =>
        obtain ⟨_, _, _, q6⟩ := hsp
        exact q6.elim
      | cont =>
        obtain ⟨_, _, _, q6⟩ := hsp
        exact q6.elim
      | ret u =>
        obtain ⟨_, _, _, _, _, q6⟩ := hsp
        exact q6.elim
    | false =>
      show wpAny _ X.A (handleBy (.ref a) X.env []) _ _ _
      refine wpAny_handleBy_nil ?_
      obtain ⟨k1, k2, k3, oe, vs, T, oT, ts', he, hz, hd, h1, hr⟩ := id fl3
      unfold PySem.passOn
      refine wpAny_bind (wpAny_field he hd h1 ?_)
      rw [if_neg (show ¬ ((Value.ref T == Value.none) = true) from by simp)]
      have fin : wpAny (model X.prog X.w) X.A (setFlight (.ref a) X.env.frame) (fun _ s4 => wpAny (model X.prog X.w) X.A (throw (.ref a) : Sem Flow) (SP X pins D) X.xe s4) X.xe { s' with heap := h3 } := by
        rw [hf]
        refine HandSPX.setFlight_upZ fl3 fun h4 hh4 up4 => wpAny_throw (tk _ _ ?_)
        exact ⟨a, B, sI, pins, σ', H', cls, d, rfl, J, nb, (up.trans up3).trans up4, .inr (.inr (by rw [hs]; exact hh4)), na, os, ag, hno rfl⟩
      first
        | exact wpAny_bind (wpAny_pure (wpAny_bind fin))
        | exact wpAny_bind fin
  have run := (hb _ _ _ caught PassesOwn.looking).run [] s σ H D (I.toTry _) h
  refine wpAny_Try_except (wpAny_mono run (fun f s1 hsp => ?_) (fun e s1 he => he))
  cases f with
  | next =>
    obtain ⟨σ', H', J', q⟩ := hsp
    exact wpAny_execs_nil ⟨σ', H', J'.ofTry ok, q⟩
  | brk =>
    obtain ⟨σ', H', J', q⟩ := hsp
    exact ⟨σ', H', J'.ofTry ok, q⟩
  | cont =>
    obtain ⟨σ', H', J', q⟩ := hsp
    exact ⟨σ', H', J'.ofTry ok, q⟩
  | ret u =>
    obtain ⟨v, σ', H', J', r, q⟩ := hsp
    exact ⟨v, σ', H', J'.ofTry ok, r, q⟩
end
end Pr
end

section
set_option Elab.async false
set_option linter.all false
set_option maxRecDepth 100000
set_option maxHeartbeats 4000000
/-! Defs that are called where no repr is under way (repr asks that), and the law's own call for such a def. -/
namespace Pr
open PySem PySem.Spec PyProof.Rows L2 LamX
/-- as FnOk, where the guards are known: none -/
structure FnG (P : Program) (w : World) (K : PySem.W.Frag) (mg : Str → Option Value) (base : Heap) (k : Nat) (f : Addr) (fd : FuncData) (ps : List Str) (sp : Sp) : Prop where
  len : ∀ vs H Q E, sp vs H Q E → vs.length = ps.length
  run : ∀ (A : Around) (outer : List Env) (s : Shared) (H : Hp) (args : Args) (us : List Value) (vs : List V) (Q : VK), A.guards = some [] → Room k A → Env0 P w K mg base A outer s H → BindsTo s fd args (ps.zip us) → Vals vs us → sp vs H Q L2.E0 →
    codeAny (model P w) A (.call (.ref f) args) (CR L2.CX0 outer P w H s Q L2.E0) s
section
variable {P : Program} {w : World} {K : PySem.W.Frag} {mg : Str → Option Value} {base : Heap}
theorem okG {x qual : Str} {params : Arguments} {body : List Stmt} {scope : Scope} {dvs : List V} {kws : List (Str × V)} {f : Addr} {fd : FuncData} {N ps : List Str} {k : Nat} {sp : Sp} (F : FunD K x qual params body scope dvs kws f fd) (S : FnScope N ps scope) (len : ∀ vs H Q E, sp vs H Q E → vs.length = ps.length)
    (hbody : ∀ (cdv : Value) (A : Around) (outer : List Env) (s : Shared) (H : Hp) (vs : List V) (Q : VK), A.guards = some [] → Room k (A.deeper (envOfC qual scope s.heap.objs.size f cdv)) → (∃ oc od osl, K.lookup f = some ⟨oc, od, .func fd, osl⟩) → PySem.W.codeIn K cdv qual = true → fd.code = cdv → sp vs H Q L2.E0 →
      ∃ t, PSs (cxOf L2.CX0 P w K mg base N qual scope f cdv A outer s H L2.E0) body t ∧ t { nx := fun _ H' => Q .non H', rt := Q } (L2.start N vs) H) : FnG P w K mg base (k + 1) f fd ps sp := by
  obtain ⟨oc, od, dV, kV, doc, pm, an, cdv, ct, osl, rfl, lk, hcd, _, _⟩ := F.ex
  refine ⟨len, fun A outer s H args us vs Q hg hr e0 hb r h => ?_⟩
  exact run_ofS lk hcd S hr e0 hb r (len _ _ _ _ h) fun hr' => hbody cdv A outer s H vs Q hg hr' ⟨oc, od, osl, lk⟩ hcd rfl h
end
section
variable {X : Cx} {x : Str} {p pos : Pos} {e : Expr} {es : List Expr} {t : TA} {k : Nat} {f : Addr} {fd : FuncData} {ps : List Str} {sp : Sp}
theorem pe_callG (F : FnG X.prog X.w X.K X.mg X.base k f fd ps sp) (hG : X.A.guards = some []) (hr : Room k X.A) (hg : Gl X x) (hm : X.mg x = some (.ref f)) (hk : PySem.W.keepIn X.K (.ref f) = true) (hb : Binds X.K fd ps []) (ha : PA X (e :: es) t)
    (hdb : (x == ("__debug__" : Str)) = false := by decide) (he : starEach (e :: es) X.env = (false, eval e X.env) :: starEach es X.env := by rfl) (hpl : (backTo pos (starEach es X.env)).any (·.1) = false := by rfl) :
    PE X (.Call (.Name x p) (e :: es) [] pos) (tCall sp [] L2.E0 t) := by
  refine ⟨fun pins s σ H Q I h => wpAny_Call_Name_kw (ld_glob I hg hm ?_ hdb)⟩
  refine PySem.W.callWith_K (h₀ := X.base) I.ok.mod.kin hk (thn (ha.run pos pins s σ H _ I h) fun us s1 ⟨vs, H1, I1, r, q⟩ => ⟨I1.kIn, ?_⟩) he hpl
  have q' : sp vs H1 Q L2.E0 := by
    rw [← List.append_nil vs]
    exact q
  have hl : (us ++ ([] : List Value)).length = ps.length := by
    rw [List.append_nil, ← r.length]
    exact F.len _ _ _ _ q'
  have hb' := hb s1 us I1.kIn hl
  rw [List.append_nil] at hb'
  refine wpAny_call (codeAny_mono (F.run X.A X.stack s1 H1 ⟨us, []⟩ us vs Q hG hr I1.env0 hb' r q') fun res s' hq => ?_)
  cases res with
  | error er => exact (show False from hq).elim
  | ok fl =>
    cases fl with
    | ret u => exact I1.after hq
    | next => exact False.elim hq
    | brk => exact False.elim hq
    | cont => exact False.elim hq
end
/-! ### the law's call: one code object c with its empty table at tb -/
theorem law_callG {P : Program} {w : World} {K : PySem.W.Frag} {mg mb : Str → Option Value} {k : Nat} {fa a c tb : Addr} {fd : FuncData} {x : Str} {sp : Sp} {s₁ : Shared} {vs : List Value} {ns : List Int}
    (KX : K.In s₁.heap) (hns : s₁.heap.Ns mainGlobals mg) (hb : s₁.heap.Ns builtinsNs mb) (hbb : ∀ x : Str, x ≠ "__name__" → mb x = bootBuiltins x) (hlim : s₁.heap.NoLimit) (hg : s₁.gens = #[])
    (hT : s₁.heap.get? tb = some { cls := .none, data := .fields #[] }) (nT : K.lookup tb = none) (C : PySem.W.CodeHd s₁.heap c tb)
    (hbm : ∃ (bm : Addr) (ob : Obj), mg "__builtins__" = some (.ref bm) ∧ bm ≠ builtinsNs ∧ s₁.heap.get? bm = some ob ∧ ob.cls = .type "module" ∧ ob.dict = some builtinsNs ∧ ob.data = .plain)
    (ha : s₁.heap.get? a = some { cls := .type "list", data := .seq vs.toArray }) (hi : IntsAre vs ns) (hl : ns.length ≤ sizeLine) (hr : Room k callerA)
    (F : ∀ base : Heap, K.In base → base.Ns mainGlobals mg → TabB base mg c tb → FnG P w K mg base k fa fd [x] sp) (hbind : ∀ (s : Shared) (u : Value), K.In s.heap → BindsTo s fd ⟨[u], []⟩ [(x, u)])
    (hsp : ∀ H : Hp, H tb = some (.tbl #[]) → SqL K H a (ns.map V.int) → sp [.ref a] H (fun v _ => v = .bl true) fun _ _ _ => False) :
    codeAny (model P w) callerA (.call (.ref fa) ⟨[.ref a], []⟩) (fun r s' => r = .ok (.ret (.bool true)) ∧ OldK s₁.heap s'.heap ∧ s'.os = s₁.os ∧ AllBare s'.gens) s₁ := by
  have rv := vals_ints hi
  have nat : a ≠ tb := fun z => by
    rw [z, hT] at ha
    cases ha
  obtain ⟨H, hH, hH2⟩ : ∃ H : Hp, H tb = some (.tbl #[]) ∧ ((K.lookup a = none ∧ H a = some (.frz { cls := .type "list", data := .seq vs.toArray } (.lst (ns.map V.int))) ∧ ∀ b, b ≠ tb → b ≠ a → H b = none) ∨ ((∃ o, K.lookup a = some o) ∧ ∀ b, b ≠ tb → H b = none)) := by
    cases q : K.lookup a with
    | none => exact ⟨fun b => if b = tb then some (.tbl #[]) else if b = a then some (.frz { cls := .type "list", data := .seq vs.toArray } (.lst (ns.map V.int))) else none, if_pos rfl, .inl ⟨rfl, (if_neg nat).trans (if_pos rfl), fun b h1 h2 => (if_neg h1).trans (if_neg h2)⟩⟩
    | some o => exact ⟨fun b => if b = tb then some (.tbl #[]) else none, if_pos rfl, .inr ⟨⟨o, rfl⟩, fun b h1 => if_neg h1⟩⟩
  have only : ∀ b u, H b = some u → b = tb ∨ (b = a ∧ K.lookup a = none ∧ u = .frz { cls := .type "list", data := .seq vs.toArray } (.lst (ns.map V.int))) := fun b u e => by
    by_cases h1 : b = tb
    · exact .inl h1
    · rcases hH2 with ⟨n, e2, z⟩ | ⟨_, z⟩
      · by_cases h2 : b = a
        · rw [h2, e2] at e
          exact .inr ⟨h2, n, (Option.some.inj e).symm⟩
        · rw [z b h1 h2] at e
          cases e
      · rw [z b h1] at e
        cases e
  have hS : SqL K H a (ns.map V.int) := by
    rcases hH2 with ⟨_, e2, _⟩ | ⟨⟨o, q⟩, _⟩
    · exact .inl (.inr ⟨_, e2⟩)
    · have e := KX a o q
      rw [ha] at e
      cases e
      exact .inr ⟨_, vs.toArray, _, q, rfl, rfl, rfl, by rw [List.size_toArray, hi.length]; exact hl, by simpa using rv⟩
  have hok : HOk P w H s₁.heap := fun b u e => by
    rcases only b u e with rfl | ⟨rfl, _, rfl⟩
    · rw [hH] at e
      cases e
      exact hT
    · exact ⟨ha, by rw [List.length_map]; exact hl, vs, _, rv, ha⟩
  -- what is neither the script nor the table stands in the base
  have inB : ∀ {b : Addr} {o : Obj}, s₁.heap.get? b = some o → (∀ vs n, o.data ≠ .seq vs n) → o.data ≠ .fields #[] → (hidT s₁.heap H).get? b = some o := fun {b o} e h1 h2 => by
    refine hidT_get e ?_
    cases q : H b with
    | none => rfl
    | some u =>
      rcases only b u q with rfl | ⟨rfl, _⟩
      · rw [hT] at e
        cases e
        exact absurd rfl h2
      · rw [ha] at e
        cases e
        exact absurd rfl (h1 _ _)
  have nsB : ∀ {b : Addr} {m : Str → Option Value}, s₁.heap.Ns b m → (hidT s₁.heap H).Ns b m := fun {b m} ⟨o, es, ep, e, d, r⟩ =>
    ⟨o, es, ep, inB e (fun vs n z => by rw [d] at z; cases z) (fun z => by rw [d] at z; cases z), d, r⟩
  have kB : K.In (hidT s₁.heap H) := fun b o e => hidT_get (KX b o e) (by
    cases q : H b with
    | none => rfl
    | some u =>
      rcases only b u q with rfl | ⟨rfl, n, _⟩
      · rw [nT] at e
        cases e
      · rw [n] at e
        cases e)
  have hM : L2.Mod K mg (hidT s₁.heap H) := ⟨kB, nsB hns, ⟨mb, nsB hb, hbb⟩, let ⟨mc, h1, h2⟩ := hlim; ⟨mc, nsB h1, h2⟩⟩
  have tB : TabB (hidT s₁.heap H) mg c tb := by
    refine ⟨?_, ?_, fun z => ?_⟩
    · obtain ⟨o, us, file, tf, flags, tg, inF, text, tt, e1, r1, r2, r3, rr⟩ := C
      refine ⟨o, us, file, tf, flags, tg, inF, text, tt, inB e1 (fun vs n z => ?_) (fun z => ?_), r1, r2, r3, rr⟩
      · rw [r2] at z
        cases z
      · rw [r2] at z
        cases z
        simp at r3
    · obtain ⟨bm, ob, b1, b2, b3, b4, b5, b6⟩ := hbm
      refine ⟨bm, ob, b1, b2, fun q => ?_, fun q => ?_, inB b3 (fun vs n z => ?_) (fun z => ?_), b4, b5, b6⟩
      · obtain ⟨o, es, ep, e, hd, _⟩ := hns
        rw [q, e] at b3
        cases b3
        rw [hd] at b6
        cases b6
      · rw [q, hT] at b3
        cases b3
        cases b6
      · rw [b6] at z
        cases z
      · rw [b6] at z
        cases z
    · obtain ⟨o, es, ep, e, hd, _⟩ := hns
      rw [z, hT] at e
      cases e
      cases hd
  have e0 : Env0 P w K mg (hidT s₁.heap H) callerA [] s₁ H := ⟨rfl, hM, fun b o e => of_hidT e, Nat.le_of_eq (hidT_size _ _), trivial, fun b hb => absurd (show b ∈ ([] : List Addr) from hb) (by simp), hok, .of_eq hg⟩
  refine codeAny_mono ((F _ kB (nsB hns) tB).run callerA [] s₁ H ⟨[.ref a], []⟩ [.ref a] [.ref a] _ rfl hr e0 (hbind s₁ (.ref a) KX) (.cons rfl .nil) (hsp H hH hS)) fun r s' h => ?_
  cases r with
  | error e => exact (show False from h).elim
  | ok fl =>
    cases fl with
    | next => exact False.elim h
    | brk => exact False.elim h
    | cont => exact False.elim h
    | ret u =>
      obtain ⟨v, H', os, bare, un, hok', r', q⟩ := h
      have q' : v = .bl true := q
      subst q'
      obtain rfl : u = Value.bool true := r'
      have key : ∀ b o, b ≠ tb → s₁.heap.get? b = some o → s'.heap.get? b = some o := fun b o nb e => by
        cases q : H b with
        | none => exact un.keep b o e q (by intro z; exact absurd (show b ∈ ([] : List Addr) from z) (by simp)) (by simp)
        | some u =>
          rcases only b u q with z | ⟨rfl, _, rfl⟩
          · exact absurd z nb
          · obtain ⟨e1, _⟩ := hok b _ q
            obtain ⟨e2, _⟩ := hok' b _ (un.frzs b _ _ q)
            rw [e] at e1
            cases e1
            exact e2
      obtain ⟨more, hm⟩ : ∃ more : Array Value, s'.heap.get? tb = some { cls := .none, data := .fields more } := by
        obtain ⟨more, z⟩ := un.tbls tb #[] hH
        exact ⟨_, hok' tb _ z⟩
      refine ⟨rfl, ⟨fun b o e => ?_, fun b o e => ?_⟩, os, bare⟩
      · by_cases hb : b = tb
        · rw [hb] at e ⊢
          rw [hT] at e
          cases e
          exact .inr (.inl ⟨(C.tab hT).isCodeTable, rfl, #[], more, rfl, by rw [Array.empty_append]; exact hm⟩)
        · exact .inl (key b o hb e)
      · by_cases hb : b = tb
        · rw [hb]
          exact ⟨_, hm⟩
        · exact ⟨o, key b o hb e⟩
/-- the end of the row -/
theorem walk_G {l : PySem.W.OpenLaw} {n k : Nat} {q : Program} {loose : List Str} {XP : (Str → Option Value) → Heap → Prop} {YP : World → Heap → Prop} {d : DefRec} {x : Str}
    (hn : l.most = some n) (hn2 : n ≤ sizeLine) (hdf : d.params.defaults = []) (hr : Room k callerA)
    (F : ∀ (w : World) (mg : Str → Option Value) (fa : Addr) (h : Heap), YP w h → h.Ns mainGlobals mg → mg d.name = some (.ref fa) → ∃ (K : PySem.W.Frag) (fd : FuncData) (c tb : Addr) (sp : Sp), K.In h ∧ h.get? tb = some { cls := .none, data := .fields #[] } ∧ K.lookup tb = none ∧ PySem.W.CodeHd h c tb ∧
      (∀ (s : Shared) (u : Value), K.In s.heap → BindsTo s fd ⟨[u], []⟩ [(x, u)]) ∧
      (∀ (H : Hp) (a : Addr) (ns : List Int), ns.length ≤ n → (∀ z ∈ ns, Builtin.Int.intBits z ≤ 1048576) → H tb = some (.tbl #[]) → SqL K H a (ns.map V.int) → sp [.ref a] H (fun v _ => v = .bl true) fun _ _ _ => False) ∧
      ∀ base : Heap, K.In base → base.Ns mainGlobals mg → TabB base mg c tb → FnG l.prog w K mg base k fa fd [x] sp) :
    PySem.W.WalkO q loose XP YP l.row.toRowW d [] (fun f vs => PySem.call f vs) := by
  refine Att.attach_callB hn hdf fun w s₀ s₁ mg mb fa o pm cd doc a vs ns G Y ho hd hcd hmg hobj hints hlen hbits hg => ?_
  obtain ⟨K, fd, c, tb, sp, KX, hT, nT, C, hb, hsp, hF⟩ := F w mg fa _ Y G.T.g hmg
  exact law_callG KX G.T.g G.T.b G.T.builtins G.T.nolimit hg hT nT C G.T.bmain hobj hints (Nat.le_trans hlen hn2) hr hF hb fun H hH hS => hsp H a ns hlen hbits hH hS
end Pr
end

section
set_option Elab.async false
set_option linter.all false
set_option maxRecDepth 100000
set_option maxHeartbeats 4000000
/-! THE READER, in plain Lean: what both sides compute. No program in sight. -/
namespace Pr
open PySem
abbrev Held := Str × Int × Int
abbrev House := Str × Int × List Held
abbrev Parish := Str × List House
/-- the parish that is being told: its name, the houses ahead, the last house -/
structure Cur where
  pn : Str
  hd : List House
  h : Option House
structure Rl where
  done : List Parish
  cur : Option Cur
def Cur.houses (c : Cur) : List House := c.hd ++ c.h.toList
def Rl.all (st : Rl) : List Parish := st.done ++ (st.cur.map fun c => (c.pn, c.houses)).toList
def Rl.empty : Rl := ⟨[], none⟩
def Rl.pnames (st : Rl) : List Str := st.all.map (·.1)
def hnOf (ps : List Parish) : List Str := ps.flatMap fun p => p.2.map (·.1)
def wsOf (ps : List Parish) : List Int := ps.flatMap fun p => p.2.map (·.2.1)
def Rl.hnames (st : Rl) : List Str := hnOf st.all
def Rl.worth (st : Rl) : Int := (wsOf st.all).sum
def letters : List Nat := ("abcdefghijklmnopqrstuvwxyz" : Str).cps.toList
def figures : List Nat := ("0123456789" : Str).cps.toList
def barred : List Str := ["parish", "house", "held"]
def isNm (z : Str) : Bool := decide (1 ≤ (z.length : Int)) && (decide ((z.length : Int) ≤ 8) && (!decide (z ∈ barred) && z.cps.toList.all fun c => decide (c ∈ letters)))
def numOf (z : Str) : Option Int :=
  if (decide (1 ≤ (z.length : Int)) && decide ((z.length : Int) ≤ 9)) = true then
    if (z.cps.toList.all fun c => decide (c ∈ figures)) = true then
      if z.cps.toList.head? = some 48 ∧ z ≠ ("0" : Str) then none else some ((NumText.digitsVal z.cps.toList : Nat) : Int)
    else none
  else none
def numIn (z : Str) (lo hi : Int) : Option Int := match numOf z with
  | none => none
  | some n => if lo ≤ n ∧ n ≤ hi then some n else none
def wd (ws : List Str) (i : Nat) : Str := (ws[i]?).getD ""
def Rl.canP (st : Rl) : Bool := match st.cur with
  | none => true
  | some c => !c.houses.isEmpty && decide (st.all.length < 8)
def Rl.canH (st : Rl) : Bool := match st.cur with
  | none => false
  | some c => decide (c.houses.length < 20) && decide (st.hnames.length < 60)
def Rl.canG (st : Rl) : Bool := match st.cur with
  | some ⟨_, _, some h⟩ => decide (h.2.2.length < 12)
  | _ => false
def Rl.least (st : Rl) : Int := match st.cur with
  | some ⟨_, _, some h⟩ => (match h.2.2.getLast? with
    | none => 1
    | some g => g.2.2 + 1)
  | _ => 1
def Rl.addP (st : Rl) (n : Str) : Rl := ⟨st.all, some ⟨n, [], none⟩⟩
def Rl.addH (st : Rl) (n : Str) (w : Int) : Rl := match st.cur with
  | none => st
  | some c => ⟨st.done, some ⟨c.pn, c.houses, some (n, w, [])⟩⟩
def Rl.addG (st : Rl) (g : Held) : Rl := match st.cur with
  | some ⟨pn, hd, some h⟩ => ⟨st.done, some ⟨pn, hd, some (h.1, h.2.1, h.2.2 ++ [g])⟩⟩
  | _ => st
/-- the words behind the first, of a parish's line, a house's, a holding's -/
def takeP (st : Rl) (ws : List Str) : Except Nat Rl :=
  if isNm (wd ws 1) = true ∧ wd ws 1 ∉ st.pnames then
    if ws.length ≤ 2 then .ok (st.addP (wd ws 1)) else .error 2
  else .error 1
def takeH (st : Rl) (ws : List Str) : Except Nat Rl :=
  if isNm (wd ws 1) = true ∧ wd ws 1 ∉ st.hnames then
    match numIn (wd ws 2) 0 9999 with
    | none => .error 2
    | some w => if ws.length ≤ 3 then .ok (st.addH (wd ws 1) w) else .error 3
  else .error 1
def takeG (st : Rl) (ws : List Str) : Except Nat Rl :=
  if isNm (wd ws 1) = true then
    match numIn (wd ws 2) st.least 360 with
    | none => .error 2
    | some f => match numIn (wd ws 3) f 360 with
      | none => .error 3
      | some t => if ws.length ≤ 4 then .ok (st.addG (wd ws 1, f, t)) else .error 4
  else .error 1
def takeLine (st : Rl) (ws : List Str) : Except Nat Rl :=
  if wd ws 0 = "parish" ∧ st.canP = true then takeP st ws
  else if wd ws 0 = "house" ∧ st.canH = true then takeH st ws
  else if wd ws 0 = "held" ∧ st.canG = true then takeG st ws
  else .error 0
def wordsOf (l : Str) : List Str := Txt.split l " "
def readLines : List Str → Nat → Rl → Except (Nat × Nat) Rl
  | [], _, st => .ok st
  | l :: ls, i, st => if ("" : Str) ∈ wordsOf l then .error (i + 1, 0) else match takeLine st (wordsOf l) with
    | .error k => .error (i + 1, k + 1)
    | .ok st' => readLines ls (i + 1) st'
def linesOf (z : Str) : List Str := Txt.split z "\n"
def Rl.short (st : Rl) : Bool := (match st.cur with
  | none => true
  | some c => c.houses.isEmpty) || decide (st.worth = 0)
def readC (z : Str) : Except (Nat × Nat) (List Parish) := match readLines (linesOf z) 0 Rl.empty with
  | .error e => .error e
  | .ok st => if st.short = true then .error ((linesOf z).length + 1, 1) else .ok st.all
/-! ### what holds of what was read -/
def HeldOk (g : Held) : Prop := isNm g.1 = true ∧ 1 ≤ g.2.1 ∧ g.2.1 ≤ 360 ∧ 1 ≤ g.2.2 ∧ g.2.2 ≤ 360
def HouseOk (h : House) : Prop := isNm h.1 = true ∧ 0 ≤ h.2.1 ∧ h.2.1 ≤ 9999 ∧ h.2.2.length ≤ 12 ∧ ∀ g ∈ h.2.2, HeldOk g
def ParishOk (p : Parish) : Prop := isNm p.1 = true ∧ p.2.length ≤ 20 ∧ ∀ h ∈ p.2, HouseOk h
structure Rl.Wf (st : Rl) : Prop where
  first : st.cur = none → st.done = []
  few : st.all.length ≤ 8
  houses : st.hnames.length ≤ 60
  each : ∀ p ∈ st.all, ParishOk p
theorem Rl.wf_empty : Rl.empty.Wf := ⟨fun _ => rfl, by decide, by decide, fun p hp => by simp [Rl.empty, Rl.all] at hp⟩
theorem numIn_some {z : Str} {lo hi n : Int} (h : numIn z lo hi = some n) : lo ≤ n ∧ n ≤ hi := by
  unfold numIn at h
  split at h
  · cases h
  · split at h
    · rename_i c
      have e := Option.some.inj h
      rw [← e]
      exact c
    · cases h
theorem all_addP (st : Rl) (n : Str) : (st.addP n).all = st.all ++ [(n, [])] := rfl
theorem all_some {st : Rl} {c : Cur} (h : st.cur = some c) : st.all = st.done ++ [(c.pn, c.houses)] := by
  unfold Rl.all
  rw [h]
  rfl
theorem all_addH {st : Rl} {c : Cur} (h : st.cur = some c) (n : Str) (w : Int) : (st.addH n w).all = st.done ++ [(c.pn, c.houses ++ [(n, w, [])])] := by
  unfold Rl.addH
  rw [h]
  rfl
theorem all_addG {st : Rl} {pn : Str} {hd : List House} {x : House} (h : st.cur = some ⟨pn, hd, some x⟩) (g : Held) : (st.addG g).all = st.done ++ [(pn, hd ++ [(x.1, x.2.1, x.2.2 ++ [g])])] := by
  unfold Rl.addG
  rw [h]
  rfl
theorem hnOf_append (a b : List Parish) : hnOf (a ++ b) = hnOf a ++ hnOf b := List.flatMap_append
theorem wsOf_append (a b : List Parish) : wsOf (a ++ b) = wsOf a ++ wsOf b := List.flatMap_append
theorem hnOf_one (p : Parish) : hnOf [p] = p.2.map (·.1) := by simp [hnOf]
theorem wsOf_one (p : Parish) : wsOf [p] = p.2.map (·.2.1) := by simp [wsOf]
theorem pnames_addP (st : Rl) (n : Str) : (st.addP n).pnames = st.pnames ++ [n] := by
  unfold Rl.pnames
  rw [all_addP, List.map_append]
  rfl
theorem hnames_addP (st : Rl) (n : Str) : (st.addP n).hnames = st.hnames := by
  unfold Rl.hnames
  rw [all_addP, hnOf_append, hnOf_one]
  simp
theorem worth_addP (st : Rl) (n : Str) : (st.addP n).worth = st.worth := by
  unfold Rl.worth
  rw [all_addP, wsOf_append, wsOf_one]
  simp
theorem pnames_addH {st : Rl} {c : Cur} (h : st.cur = some c) (n : Str) (w : Int) : (st.addH n w).pnames = st.pnames := by
  unfold Rl.pnames
  rw [all_addH h, all_some h]
  simp
theorem hnames_addH {st : Rl} {c : Cur} (h : st.cur = some c) (n : Str) (w : Int) : (st.addH n w).hnames = st.hnames ++ [n] := by
  unfold Rl.hnames
  rw [all_addH h, all_some h, hnOf_append, hnOf_append, hnOf_one, hnOf_one]
  simp
theorem worth_addH {st : Rl} {c : Cur} (h : st.cur = some c) (n : Str) (w : Int) : (st.addH n w).worth = st.worth + w := by
  unfold Rl.worth
  rw [all_addH h, all_some h, wsOf_append, wsOf_append, wsOf_one, wsOf_one]
  simp
  omega
theorem pnames_addG {st : Rl} {pn : Str} {hd : List House} {x : House} (h : st.cur = some ⟨pn, hd, some x⟩) (g : Held) : (st.addG g).pnames = st.pnames := by
  unfold Rl.pnames
  rw [all_addG h, all_some h]
  simp
theorem hnames_addG {st : Rl} {pn : Str} {hd : List House} {x : House} (h : st.cur = some ⟨pn, hd, some x⟩) (g : Held) : (st.addG g).hnames = st.hnames := by
  unfold Rl.hnames
  rw [all_addG h, all_some h, hnOf_append, hnOf_append, hnOf_one, hnOf_one]
  simp [Cur.houses]
theorem worth_addG {st : Rl} {pn : Str} {hd : List House} {x : House} (h : st.cur = some ⟨pn, hd, some x⟩) (g : Held) : (st.addG g).worth = st.worth := by
  unfold Rl.worth
  rw [all_addG h, all_some h, wsOf_append, wsOf_append, wsOf_one, wsOf_one]
  simp [Cur.houses]
theorem wf_takeP {st st' : Rl} {ws : List Str} (W : st.Wf) (hc : st.canP = true) (h : takeP st ws = .ok st') : st'.Wf := by
  unfold takeP at h
  split at h
  · rename_i c
    split at h
    · cases h
      refine ⟨fun z => (by cases z), ?_, by rw [hnames_addP]; exact W.houses, fun p hp => ?_⟩
      · rw [all_addP, List.length_append]
        show st.all.length + 1 ≤ 8
        unfold Rl.canP at hc
        split at hc
        · rename_i hn
          have e := W.first hn
          unfold Rl.all
          rw [e, hn]
          decide
        · have z := (Bool.and_eq_true_iff.mp hc).2
          have := of_decide_eq_true z
          omega
      · rw [all_addP] at hp
        rcases List.mem_append.mp hp with hp | hp
        · exact W.each p hp
        · rw [List.mem_singleton] at hp
          subst hp
          exact ⟨c.1, by simp, fun x hx => by simp at hx⟩
    · cases h
  · cases h
theorem wf_takeH {st st' : Rl} {ws : List Str} (W : st.Wf) (hc : st.canH = true) (h : takeH st ws = .ok st') : st'.Wf := by
  unfold takeH at h
  split at h
  · rename_i c
    split at h
    · cases h
    · rename_i w hw
      split at h
      · cases h
        unfold Rl.canH at hc
        split at hc
        · cases hc
        · rename_i cu hcu
          obtain ⟨h1, h2⟩ := Bool.and_eq_true_iff.mp hc
          have h1 := of_decide_eq_true h1
          have h2 := of_decide_eq_true h2
          have hal := all_some hcu
          refine ⟨fun z => ?_, ?_, ?_, fun p hp => ?_⟩
          · unfold Rl.addH at z
            rw [hcu] at z
            cases z
          · have := W.few
            rw [hal] at this
            rw [all_addH hcu]
            simpa using this
          · rw [hnames_addH hcu, List.length_append]
            show st.hnames.length + 1 ≤ 60
            omega
          · rw [all_addH hcu] at hp
            have cp : ParishOk (cu.pn, cu.houses) := W.each _ (by rw [hal]; simp)
            rcases List.mem_append.mp hp with hp | hp
            · exact W.each p (by rw [hal]; exact List.mem_append_left _ hp)
            · rw [List.mem_singleton] at hp
              subst hp
              refine ⟨cp.1, by show (cu.houses ++ _).length ≤ 20; rw [List.length_append]; show cu.houses.length + 1 ≤ 20; omega, fun x hx => ?_⟩
              rcases List.mem_append.mp hx with hx | hx
              · exact cp.2.2 x hx
              · rw [List.mem_singleton] at hx
                subst hx
                have b := numIn_some hw
                exact ⟨c.1, b.1, b.2, by simp, fun g hg => by simp at hg⟩
      · cases h
  · cases h
theorem least_ge {st : Rl} (W : st.Wf) : 1 ≤ st.least := by
  unfold Rl.least
  split
  · rename_i pn hd h hcu
    split
    · exact Int.le_refl _
    · rename_i g hg
      have hp : ParishOk (pn, hd ++ [h]) := W.each _ (by rw [all_some hcu]; simp [Cur.houses])
      have hh := hp.2.2 h (by simp)
      have := hh.2.2.2.2 g (List.mem_of_getLast? hg)
      unfold HeldOk at this
      omega
  · exact Int.le_refl _
theorem wf_takeG {st st' : Rl} {ws : List Str} (W : st.Wf) (hc : st.canG = true) (h : takeG st ws = .ok st') : st'.Wf := by
  unfold takeG at h
  split at h
  · rename_i c
    split at h
    · cases h
    · rename_i f hf
      split at h
      · cases h
      · rename_i t ht
        split at h
        · cases h
          unfold Rl.canG at hc
          split at hc
          · rename_i pn hd x hcu
            have hc := of_decide_eq_true hc
            have hal := all_some hcu
            have bf := numIn_some hf
            have bt := numIn_some ht
            have bl := least_ge W
            refine ⟨fun z => ?_, ?_, ?_, fun p hp => ?_⟩
            · unfold Rl.addG at z
              rw [hcu] at z
              cases z
            · have := W.few
              rw [hal] at this
              rw [all_addG hcu]
              simpa using this
            · rw [hnames_addG hcu]
              exact W.houses
            · rw [all_addG hcu] at hp
              have cp : ParishOk (pn, hd ++ [x]) := W.each _ (by rw [hal]; simp [Cur.houses])
              rcases List.mem_append.mp hp with hp | hp
              · exact W.each p (by rw [hal]; exact List.mem_append_left _ hp)
              · rw [List.mem_singleton] at hp
                subst hp
                refine ⟨cp.1, by have := cp.2.1; simpa using this, fun y hy => ?_⟩
                rcases List.mem_append.mp hy with hy | hy
                · exact cp.2.2 y (List.mem_append_left _ hy)
                · rw [List.mem_singleton] at hy
                  subst hy
                  have hx := cp.2.2 x (by simp)
                  refine ⟨hx.1, hx.2.1, hx.2.2.1, by show (x.2.2 ++ _).length ≤ 12; rw [List.length_append]; show x.2.2.length + 1 ≤ 12; omega, fun g hg => ?_⟩
                  rcases List.mem_append.mp hg with hg | hg
                  · exact hx.2.2.2.2 g hg
                  · rw [List.mem_singleton] at hg
                    subst hg
                    exact ⟨c, by show 1 ≤ f; omega, bf.2, by show 1 ≤ t; omega, bt.2⟩
          · cases hc
        · cases h
  · cases h
theorem wf_takeLine {st st' : Rl} {ws : List Str} (W : st.Wf) (h : takeLine st ws = .ok st') : st'.Wf := by
  unfold takeLine at h
  split at h
  · rename_i c
    exact wf_takeP W c.2 h
  · split at h
    · rename_i c
      exact wf_takeH W c.2 h
    · split at h
      · rename_i c
        exact wf_takeG W c.2 h
      · cases h
theorem wf_readLines : ∀ {ls : List Str} {i : Nat} {st st' : Rl}, st.Wf → readLines ls i st = .ok st' → st'.Wf
  | [], _, _, _, W, h => by cases h; exact W
  | l :: ls, i, st, st', W, h => by
    unfold readLines at h
    split at h
    · cases h
    · split at h
      · cases h
      · rename_i st1 h1
        exact wf_readLines (wf_takeLine W h1) h
theorem readC_ok {z : Str} {ps : List Parish} (h : readC z = .ok ps) : ps.length ≤ 8 ∧ ∀ p ∈ ps, ParishOk p := by
  unfold readC at h
  split at h
  · cases h
  · rename_i st hs
    have W := wf_readLines Rl.wf_empty hs
    split at h
    · cases h
    · cases h
      exact ⟨W.few, W.each⟩
/-! ### the county as data; its repr is short -/
def dHeld (g : Held) : PyData := .tuple [.str g.1, .int g.2.1, .int g.2.2]
def dHouse (h : House) : PyData := .tuple [.str h.1, .int h.2.1, .tuple (h.2.2.map dHeld)]
def dParish (p : Parish) : PyData := .tuple [.str p.1, .tuple (p.2.map dHouse)]
def dCounty (ps : List Parish) : PyData := .tuple (ps.map dParish)
theorem shownAll_map {α : Type} (f : α → PyData) : ∀ l : List α, PyData.shownAll (l.map f) = l.map fun x => (f x).shown
  | [] => rfl
  | x :: l => by
    rw [List.map_cons, List.map_cons, ← shownAll_map f l]
    rfl
theorem showableAll_map {α : Type} (f : α → PyData) : ∀ l : List α, (∀ x ∈ l, (f x).showable = true) → PyData.showableAll (l.map f) = true
  | [], _ => rfl
  | x :: l, h => by
    rw [List.map_cons]
    unfold PyData.showableAll
    rw [h x List.mem_cons_self, showableAll_map f l fun y hy => h y (List.mem_cons_of_mem _ hy)]
    rfl
theorem hasDictAll_map {α : Type} (f : α → PyData) : ∀ l : List α, (∀ x ∈ l, (f x).hasDict = false) → PyData.hasDictAll (l.map f) = false
  | [], _ => rfl
  | x :: l, h => by
    rw [List.map_cons]
    unfold PyData.hasDictAll
    rw [h x List.mem_cons_self, hasDictAll_map f l fun y hy => h y (List.mem_cons_of_mem _ hy)]
    rfl
theorem depthAll_map {α : Type} (f : α → PyData) (n : Nat) : ∀ l : List α, (∀ x ∈ l, (f x).depth ≤ n) → PyData.depthAll (l.map f) ≤ n
  | [], _ => Nat.zero_le _
  | x :: l, h => by
    rw [List.map_cons]
    unfold PyData.depthAll
    exact Nat.max_le.mpr ⟨h x List.mem_cons_self, depthAll_map f n l fun y hy => h y (List.mem_cons_of_mem _ hy)⟩
theorem piled_map {α : Type} (f : α → Str) (n : Nat) : ∀ l : List α, (∀ x ∈ l, (f x).length ≤ n) → piled (l.map f) ≤ l.length * (n + 2)
  | [], _ => Nat.zero_le _
  | x :: l, h => by
    rw [List.map_cons, piled_cons, List.length_cons, Nat.succ_mul]
    have h1 := h x List.mem_cons_self
    have h2 := piled_map f n l fun y hy => h y (List.mem_cons_of_mem _ hy)
    omega
theorem tuple_le {α : Type} (f : α → PyData) (n m : Nat) (l : List α) (hl : l.length ≤ m) (h : ∀ x ∈ l, (f x).shown.length ≤ n) : (PyData.tuple (l.map f)).shown.length ≤ m * (n + 2) + 2 := by
  show (tupleText (PyData.shownAll (l.map f))).length ≤ _
  rw [shownAll_map]
  refine Nat.le_trans (fmt_text _) ?_
  have h1 := piled_map (fun x => (f x).shown) n l h
  have h2 : l.length * (n + 2) ≤ m * (n + 2) := Nat.mul_le_mul_right _ hl
  omega
theorem nm_len {z : Str} (h : isNm z = true) : z.length ≤ 8 := by
  unfold isNm at h
  have := of_decide_eq_true (Bool.and_eq_true_iff.mp (Bool.and_eq_true_iff.mp h).2).1
  omega
theorem nm_shown {z : Str} (h : isNm z = true) : (reprText z).length ≤ 82 := by
  have hl := nm_len h
  have hc : ∀ c ∈ z.cps.toList, c < 16 ^ 8 := fun c hc => by
    unfold isNm at h
    have h3 := (Bool.and_eq_true_iff.mp (Bool.and_eq_true_iff.mp (Bool.and_eq_true_iff.mp h).2).2).2
    have h4 := of_decide_eq_true (List.all_eq_true.mp h3 c hc)
    have h5 : ∀ c ∈ letters, c < 16 ^ 8 := by decide +kernel
    exact h5 c h4
  have := StrLaws.reprText_len z hc
  omega
theorem int_shown {i : Int} (h0 : 0 ≤ i) (h1 : i ≤ 9999) : ((toString i : String) : Str).length ≤ 20 ∧ i.natAbs.log2 < 1920 := by
  obtain ⟨n, rfl⟩ := Int.eq_ofNat_of_zero_le h0
  have hn : n < 2 ^ 14 := by omega
  constructor
  · show (Str.ofString (toString ((n : Nat) : Int))).length ≤ 20
    rw [ofString_length]
    have := int_text_length_le10 (a := ((n : Nat) : Int)) (k := 5) (by decide) (by rw [Int.natAbs_natCast]; omega)
    omega
  · show (((n : Nat) : Int).natAbs).log2 < 1920
    rw [Int.natAbs_natCast]
    have : n.log2 < 14 := by
      by_cases z : n = 0
      · subst z
        decide
      · exact (Nat.log2_lt z).mpr hn
    omega
theorem held_le {g : Held} (h : HeldOk g) : (dHeld g).shown.length ≤ 150 := by
  obtain ⟨h1, h2, h3, h4, h5⟩ := h
  show (tupleText [reprText g.1, ((toString g.2.1 : String) : Str), ((toString g.2.2 : String) : Str)]).length ≤ _
  refine Nat.le_trans (fmt_text _) ?_
  have a := nm_shown h1
  have b := (int_shown (i := g.2.1) (by omega) (by omega)).1
  have c := (int_shown (i := g.2.2) (by omega) (by omega)).1
  rw [piled_cons, piled_cons, piled_cons, piled_nil]
  omega
theorem house_le {h : House} (k : HouseOk h) : (dHouse h).shown.length ≤ 2000 := by
  obtain ⟨h1, h2, h3, h4, h5⟩ := k
  show (tupleText [reprText h.1, ((toString h.2.1 : String) : Str), (PyData.tuple (h.2.2.map dHeld)).shown]).length ≤ _
  refine Nat.le_trans (fmt_text _) ?_
  have a := nm_shown h1
  have b := (int_shown (i := h.2.1) (by omega) (by omega)).1
  have c := tuple_le dHeld 150 12 h.2.2 h4 fun g hg => held_le (h5 g hg)
  rw [piled_cons, piled_cons, piled_cons, piled_nil]
  omega
theorem parish_le {p : Parish} (k : ParishOk p) : (dParish p).shown.length ≤ 50000 := by
  obtain ⟨h1, h2, h3⟩ := k
  show (tupleText [reprText p.1, (PyData.tuple (p.2.map dHouse)).shown]).length ≤ _
  refine Nat.le_trans (fmt_text _) ?_
  have a := nm_shown h1
  have c := tuple_le dHouse 2000 20 p.2 h2 fun g hg => house_le (h3 g hg)
  rw [piled_cons, piled_cons, piled_nil]
  omega
theorem county_le {ps : List Parish} (h1 : ps.length ≤ 8) (h2 : ∀ p ∈ ps, ParishOk p) : (dCounty ps).shown.length ≤ 500000 := by
  have c := tuple_le dParish 50000 8 ps h1 fun g hg => parish_le (h2 g hg)
  exact Nat.le_trans c (by decide)
theorem held_show {g : Held} (h : HeldOk g) : (dHeld g).showable = true := by
  obtain ⟨h1, h2, h3, h4, h5⟩ := h
  have b := (int_shown (i := g.2.1) (by omega) (by omega)).2
  have c := (int_shown (i := g.2.2) (by omega) (by omega)).2
  show (true && (decide (g.2.1.natAbs.log2 < 1920) && (decide (g.2.2.natAbs.log2 < 1920) && true))) = true
  rw [decide_eq_true b, decide_eq_true c]
  rfl
theorem house_show {h : House} (k : HouseOk h) : (dHouse h).showable = true := by
  obtain ⟨h1, h2, h3, h4, h5⟩ := k
  have b := (int_shown (i := h.2.1) (by omega) (by omega)).2
  show (true && (decide (h.2.1.natAbs.log2 < 1920) && (PyData.showableAll (h.2.2.map dHeld) && true))) = true
  rw [decide_eq_true b, showableAll_map dHeld _ fun g hg => held_show (h5 g hg)]
  rfl
theorem parish_show {p : Parish} (k : ParishOk p) : (dParish p).showable = true := by
  show (true && (PyData.showableAll (p.2.map dHouse) && true)) = true
  rw [showableAll_map dHouse _ fun g hg => house_show (k.2.2 g hg)]
  rfl
theorem county_show {ps : List Parish} (h : ∀ p ∈ ps, ParishOk p) : (dCounty ps).showable = true := showableAll_map dParish _ fun g hg => parish_show (h g hg)
theorem held_nd (g : Held) : (dHeld g).hasDict = false := rfl
theorem house_nd (h : House) : (dHouse h).hasDict = false := by
  show (false || (false || (PyData.hasDictAll (h.2.2.map dHeld) || false))) = false
  rw [hasDictAll_map dHeld _ fun g _ => held_nd g]
  rfl
theorem parish_nd (p : Parish) : (dParish p).hasDict = false := by
  show (false || (PyData.hasDictAll (p.2.map dHouse) || false)) = false
  rw [hasDictAll_map dHouse _ fun g _ => house_nd g]
  rfl
theorem county_nd (ps : List Parish) : (dCounty ps).hasDict = false := hasDictAll_map dParish _ fun g _ => parish_nd g
theorem held_dep (g : Held) : (dHeld g).depth ≤ 1 := by
  show max 0 (max 0 (max 0 0)) + 1 ≤ 1
  decide
theorem house_dep (h : House) : (dHouse h).depth ≤ 3 := by
  have := depthAll_map dHeld 1 h.2.2 fun g _ => held_dep g
  show max 0 (max 0 (max (PyData.depthAll (h.2.2.map dHeld) + 1) 0)) + 1 ≤ 3
  omega
theorem parish_dep (p : Parish) : (dParish p).depth ≤ 5 := by
  have := depthAll_map dHouse 3 p.2 fun g _ => house_dep g
  show max 0 (max (PyData.depthAll (p.2.map dHouse) + 1) 0) + 1 ≤ 5
  omega
theorem county_dep (ps : List Parish) : (dCounty ps).depth ≤ 6 := by
  have := depthAll_map dParish 5 ps fun g _ => parish_dep g
  show PyData.depthAll (ps.map dParish) + 1 ≤ 6
  omega
/-! ### texts that are split -/
theorem split_each (x y : Str) : ∀ p ∈ Txt.split x y, p.length ≤ x.length := fun p hp => by
  have h := join_mem_le y (Txt.split x y) p hp
  rw [StrLaws.join_split] at h
  exact h
end Pr
end

section
set_option Elab.async false
set_option linter.all false
set_option maxRecDepth 100000
set_option maxHeartbeats 4000000
/-! Helpers: comprehensions that leave the heap as it is; names of built-ins; heaps. -/
namespace Pr
open PySem L2
theorem boot_isi : bootBuiltins ("isinstance" : Str) = some (.builtin "isinstance") := by decide +kernel
theorem boot_int' : bootBuiltins ("int" : Str) = some (.type "int") := by decide +kernel
theorem boot_bool' : bootBuiltins ("bool" : Str) = some (.type "bool") := by decide +kernel
theorem boot_str' : bootBuiltins ("str" : Str) = some (.type "str") := by decide +kernel
theorem boot_tuple' : bootBuiltins ("tuple" : Str) = some (.type "tuple") := by decide +kernel
theorem boot_all' : bootBuiltins ("all" : Str) = some (.builtin "all") := by decide +kernel
theorem boot_sum' : bootBuiltins ("sum" : Str) = some (.builtin "sum") := by decide +kernel
theorem boot_min' : bootBuiltins ("min" : Str) = some (.builtin "min") := by decide +kernel
theorem boot_max' : bootBuiltins ("max" : Str) = some (.builtin "max") := by decide +kernel
theorem boot_repr' : bootBuiltins ("repr" : Str) = some (.builtin "repr") := by decide +kernel
theorem boot_VE' : bootBuiltins ("ValueError" : Str) = some (.type "ValueError") := by decide +kernel
/-- .. over items that leave the heap alone: what is kept, told of each -/
theorem lc_sel {α : Type} {J : It} {G : Hp → Prop} {Y : Nat → Hp → V → Hp → Prop} (items : List α) (val : α → V) (keep : α → Bool) (f : α → V) (w : Walk J items.length G Y) {g : TG} {tt : TT} {te : TE} {vs : List Nat} {σ : L2.St} {H1 : Hp} {D : Addr} {Qd : Hp → Prop}
    (hn : items.length ≤ sizeLine) (hY : ∀ i H x H', i < items.length → Y i H x H' → H' = H ∧ ∃ a, items[i]? = some a ∧ x = val a) (hG : ∀ acc, G (upd H1 D (.lst acc)))
    (hs : ∀ a acc (N : Hp → Prop), a ∈ items → acc.length < sizeLine → (keep a = true → N (upd H1 D (.lst (acc ++ [f a])))) → (keep a = false → N (upd H1 D (.lst acc))) →
      g (val a) (wipe σ vs) (upd H1 D (.lst acc)) fun σ2 H2 => wipe σ2 vs = wipe σ vs ∧ tt σ2 H2 fun b H3 =>
        if b = true then te σ2 H3 fun y H4 => ∃ acc', H4 D = some (.lst acc') ∧ acc'.length < sizeLine ∧ N (upd H4 D (.lst (acc' ++ [y]))) else N H3)
    (hd : Qd (upd H1 D (.lst ((items.filter keep).map f)))) :
    ∃ W : Nat → Nat → Hp → Prop, (∃ m, W 0 m (upd H1 D (.lst []))) ∧ ∀ i m H, W i m H →
      (J.stop i H ∧ Qd H) ∨ (J.go i H ∧ ∃ Nx : Hp → Prop, (∀ H', Nx H' → ∃ m', m' < m ∧ W (i + 1) m' H') ∧ ∀ x H', J.yld i H x H' → g x (wipe σ vs) H' fun σ2 H2 => wipe σ2 vs = wipe σ vs ∧ tt σ2 H2 fun b H3 =>
        if b = true then te σ2 H3 fun y H4 => ∃ acc, H4 D = some (.lst acc) ∧ acc.length < sizeLine ∧ Nx (upd H4 D (.lst (acc ++ [y]))) else Nx H3) := by
  refine lc_it w (fun i H => H = upd H1 D (.lst (((items.take i).filter keep).map f))) (by simp) (fun i H _ e => by rw [e]; exact hG _) (fun i x H H' hi e y => ?_) (fun H e => ?_)
  · obtain ⟨e1, a, ha, rfl⟩ := hY i H x H' hi y
    subst e1
    subst e
    have hstep : (items.take (i + 1)).filter keep = (items.take i).filter keep ++ (if keep a = true then [a] else []) := by
      rw [List.take_add_one, ha]
      simp [List.filter_append, List.filter_cons]
    have hlen : (((items.take i).filter keep).map f).length < sizeLine := by
      rw [List.length_map]
      have h1 := List.length_filter_le keep (items.take i)
      have h2 : (items.take i).length ≤ i := by rw [List.length_take]; omega
      omega
    refine hs a _ _ (List.mem_of_getElem? ha) hlen (fun k => ?_) (fun k => ?_)
    · rw [hstep, if_pos k]
      simp
    · rw [hstep, if_neg (by rw [k]; exact Bool.false_ne_true)]
      simp
  · rw [e, List.take_length]
    exact hd
/-- .. without a test -/
theorem lc_map {α : Type} {J : It} {G : Hp → Prop} {Y : Nat → Hp → V → Hp → Prop} (items : List α) (val : α → V) (f : α → V) (w : Walk J items.length G Y) {g : TG} {te : TE} {vs : List Nat} {σ : L2.St} {H1 : Hp} {D : Addr} {Qd : Hp → Prop}
    (hn : items.length ≤ sizeLine) (hY : ∀ i H x H', i < items.length → Y i H x H' → H' = H ∧ ∃ a, items[i]? = some a ∧ x = val a) (hG : ∀ acc, G (upd H1 D (.lst acc)))
    (hs : ∀ a acc (N : Hp → Prop), a ∈ items → acc.length < sizeLine → N (upd H1 D (.lst (acc ++ [f a]))) →
      g (val a) (wipe σ vs) (upd H1 D (.lst acc)) fun σ2 H2 => wipe σ2 vs = wipe σ vs ∧ te σ2 H2 fun y H4 => ∃ acc', H4 D = some (.lst acc') ∧ acc'.length < sizeLine ∧ N (upd H4 D (.lst (acc' ++ [y]))))
    (hd : Qd (upd H1 D (.lst (items.map f)))) :
    ∃ W : Nat → Nat → Hp → Prop, (∃ m, W 0 m (upd H1 D (.lst []))) ∧ ∀ i m H, W i m H →
      (J.stop i H ∧ Qd H) ∨ (J.go i H ∧ ∃ Nx : Hp → Prop, (∀ H', Nx H' → ∃ m', m' < m ∧ W (i + 1) m' H') ∧ ∀ x H', J.yld i H x H' → g x (wipe σ vs) H' fun σ2 H2 => wipe σ2 vs = wipe σ vs ∧ tYes σ2 H2 fun b H3 =>
        if b = true then te σ2 H3 fun y H4 => ∃ acc, H4 D = some (.lst acc) ∧ acc.length < sizeLine ∧ Nx (upd H4 D (.lst (acc ++ [y]))) else Nx H3) := by
  refine lc_sel items val (fun _ => true) f w hn hY hG (fun a acc N ha hl hy _ => ?_) ?_
  · have q := hs a acc N ha hl (hy rfl)
    have e : (fun (σ2 : L2.St) (H2 : Hp) => wipe σ2 vs = wipe σ vs ∧ tYes σ2 H2 fun b H3 => if b = true then te σ2 H3 fun y H4 => ∃ acc', H4 D = some (.lst acc') ∧ acc'.length < sizeLine ∧ N (upd H4 D (.lst (acc' ++ [y]))) else N H3) =
        fun σ2 H2 => wipe σ2 vs = wipe σ vs ∧ te σ2 H2 fun y H4 => ∃ acc', H4 D = some (.lst acc') ∧ acc'.length < sizeLine ∧ N (upd H4 D (.lst (acc' ++ [y]))) := by
      funext σ2 H2
      simp [tYes]
    rw [e]
    exact q
  · rw [show (items.filter fun _ => true) = items from List.filter_eq_self.mpr fun _ _ => rfl]
    exact hd
/-- what a list walk gives -/
theorem yat_list {α : Type} (items : List α) (val : α → V) : ∀ i H x H', i < items.length → YAt (items.map val) i H x H' → H' = H ∧ ∃ a, items[i]? = some a ∧ x = val a := fun i H x H' hi y => by
  obtain ⟨e, h⟩ := y
  rw [List.getElem?_map] at h
  cases q : items[i]? with
  | none =>
    rw [q] at h
    cases h
  | some a =>
    rw [q] at h
    exact ⟨e, a, rfl, (Option.some.inj h).symm⟩
def sgn (c : Nat) : V := .str ⟨#[c]⟩
theorem walk_text (z : Str) : Walk (Its z) z.cps.toList.length (fun _ => True) (fun i H v H' => H' = H ∧ ∃ c, z.cps[i]? = some c ∧ v = .str ⟨#[c]⟩) := by
  rw [Array.length_toList]
  exact walk_str
theorem yat_text (z : Str) : ∀ (i : Nat) (H : Hp) (x : V) (H' : Hp), i < z.cps.toList.length → (H' = H ∧ ∃ c, z.cps[i]? = some c ∧ x = V.str ⟨#[c]⟩) → H' = H ∧ ∃ a, z.cps.toList[i]? = some a ∧ x = sgn a := fun i H x H' hi y => by
  obtain ⟨e, c, h, hx⟩ := y
  exact ⟨e, c, by simpa using h, hx⟩
theorem Same.upd {H H1 : Hp} {p : Addr} {o : HO} (s : Same H H1) (n : H p = none) : Same H (upd H1 p o) := fun b u e => by
  rw [upd_ne (ne_of_none e n)]
  exact s b u e
theorem iteY {c A B : Prop} [Decidable c] (h : c) (a : A) : if c then A else B := by
  rw [if_pos h]
  exact a
theorem iteN {c A B : Prop} [Decidable c] (h : ¬ c) (b : B) : if c then A else B := by
  rw [if_neg h]
  exact b
/-- a test by its answer -/
theorem iteD {p A B : Prop} [Decidable p] (h1 : p → A) (h2 : ¬ p → B) : if decide p = true then A else B := by
  by_cases h : p
  · rw [if_pos (decide_eq_true h)]
    exact h1 h
  · rw [if_neg (fun z => h (of_decide_eq_true z))]
    exact h2 h
/-- .. by its no -/
theorem iteDN {p A B : Prop} [Decidable p] (h1 : ¬ p → A) (h2 : p → B) : if (!decide p) = true then A else B := by
  by_cases h : p
  · rw [if_neg (by rw [decide_eq_true h]; exact Bool.false_ne_true)]
    exact h2 h
  · rw [if_pos (by rw [decide_eq_false h]; rfl)]
    exact h1 h
theorem iteB {b : Bool} {A B : Prop} (h1 : b = true → A) (h2 : b = false → B) : if b = true then A else B := by
  cases b with
  | true => exact iteT (h1 rfl)
  | false => exact iteF (h2 rfl)
theorem iteBN {b : Bool} {A B : Prop} (h1 : b = false → A) (h2 : b = true → B) : if (!b) = true then A else B := by
  cases b with
  | true => exact iteF (h2 rfl)
  | false => exact iteT (h1 rfl)
theorem inV_strs (z : Str) : ∀ ys : List Str, inV (.str z) (ys.map V.str) = decide (z ∈ ys)
  | [] => rfl
  | y :: ys => by
    have ih := inV_strs z ys
    unfold inV at ih ⊢
    rw [List.map_cons, List.any_cons, ih]
    show ((y == z) || decide (z ∈ ys)) = decide (z ∈ y :: ys)
    by_cases h : y = z
    · subst h
      simp
    · have h2 : ¬ z = y := fun e => h e.symm
      rw [beq_eq_false_iff_ne.mpr h, Bool.false_or]
      simp [h2]
theorem strs_flat (ys : List Str) : (ys.map V.str).all flatV = true := by
  rw [List.all_map]
  exact List.all_eq_true.mpr fun _ _ => rfl
end Pr
end

section
set_option Elab.async false
set_option linter.all false
set_option maxRecDepth 100000
set_option maxHeartbeats 4000000
/-! The program's words.py: is_whole, is_name, number_of, words_of. -/
namespace Pr
open PySem L2
section
variable {P : Program} {w : World} {K : PySem.W.Frag} {mg : Str → Option Value} {base : Heap}
def spWhole : Sp := fun vs H Q _ => ∃ n a b : Int, vs = [.int n, .int a, .int b] ∧ Q (.bl (decide (a ≤ n ∧ n ≤ b))) H
theorem ok_is_whole (T : Txt K mg) : FnOk P w K mg base L2.CX0 1 (a_is_whole K) (fdOf K (a_is_whole K)) P_is_whole spWhole := by
  refine T.F_is_whole.ok sc_is_whole (fun vs H Q E h => ?_) (fun cdv A outer s H vs Q E hr h => ?_)
  · obtain ⟨n, a, b, rfl, _⟩ := h
    rfl
  · obtain ⟨n, a, b, rfl, k⟩ := h
    refine ⟨_, PSs.nox (pss_one (ps_ret (pe_and (pe_callB call_isi (by rfl) T.f_isinstance boot_isi (pa_cons (pv 0) (pa_cons (pe_bltn (v := .ty "int") (by rfl) T.f_int boot_int' rfl) pa_nil)))
      (pe_and (pe_not (pe_callB call_isi (by rfl) T.f_isinstance boot_isi (pa_cons (pv 0) (pa_cons (pe_bltn (v := .ty "bool") (by rfl) T.f_bool boot_bool' rfl) pa_nil))))
        (pe_one (pe_chain op_le op_le (pv 1) (pv 0) (pv 2))))))), ?_⟩
    refine ⟨_, rfl, _, _, _, _, true, rfl, .ty "int", .base (.int n), kit_ty (by decide +kernel), true, rfl, iteT ?_⟩
    refine ⟨_, rfl, _, _, _, _, false, rfl, .ty "bool", .base (.int n), kit_ty (by decide +kernel), false, rfl, _, rfl, iteT ?_⟩
    refine ⟨_, rfl, _, rfl, _, _, rfl, rfl, _, rfl, ite2 (fun c => ?_) (fun c => ?_)⟩
    · have c := of_decide_eq_true c
      refine ⟨_, rfl, _, _, rfl, rfl, ?_⟩
      rw [show decide (a ≤ n ∧ n ≤ b) = decide (n ≤ b) by simp [c]] at k
      exact k
    · have c : ¬ a ≤ n := fun z => c (decide_eq_true z)
      rw [show decide (a ≤ n ∧ n ≤ b) = false by simp [c]] at k
      exact k
/-- a text comes in; the heap may grow -/
def spName : Sp := fun vs H Q _ => ∃ z : Str, vs = [.str z] ∧ z.length ≤ 1000000 ∧ ∀ H', Same H H' → Q (.bl (isNm z)) H'
theorem ok_is_name (T : Txt K mg) : FnOk P w K mg base L2.CX0 1 (a_is_name K) (fdOf K (a_is_name K)) P_is_name spName := by
  obtain ⟨t8, h8⟩ := T.i_MOST_LETTERS
  obtain ⟨tl, hl⟩ := T.s_LETTERS
  refine T.F_is_name.ok sc_is_name (fun vs H Q E h => ?_) (fun cdv A outer s H vs Q E hr h => ?_)
  · obtain ⟨z, rfl, _⟩ := h
    rfl
  · obtain ⟨z, rfl, hz, k⟩ := h
    refine ⟨_, PSs.nox (pss_cons (ps_if (PW.pt (pw_or (pt_not (pt_val (pe_callB call_isi (by rfl) T.f_isinstance boot_isi (pa_cons (pv 0) (pa_cons (pe_bltn (v := .ty "str") (by rfl) T.f_str boot_str' rfl) pa_nil)))))
        (pw_or (pt_not (pt_chain op_le op_le pe_int (pe_callB call_len_str (by rfl) T.f_len PySem.boot_len (pa_cons (pv 0) pa_nil)) (pe_glob (v := .int 8) (by rfl) h8 ⟨t8, rfl⟩)))
          (pw_or1 (pt_cmpR op_in_seq (pv 0) (pe_glob (v := .ref (He.ga K "BARRED")) (by rfl) T.g_BARRED rfl) (by rfl))))))
        (pss_one (ps_ret pe_bl)) pss_nil)
      (pss_one (ps_ret (pe_callB (cr_all rfl) (by rfl) T.f_all boot_all' (pa_cons (pe_lc (own := [("sign", 1)]) (g := gName 1) (tt := tYes) rfl sc_is_name.nd (pi_str (pv 0)) (blkOk_by (N := N_is_name) (sc := defScope s_is_name) (by decide +kernel))
        (fun _ _ _ _ _ => pg_name (i := 1) sc_is_name.nd rfl (Or.inl rfl)) (fun _ _ _ _ _ => pts_nil)
        (fun _ _ _ _ _ => pe_cmpR op_in_sign (pv 1) (pe_glob (v := .str "abcdefghijklmnopqrstuvwxyz") (by rfl) hl ⟨tl, rfl⟩) (by rfl))) pa_nil))))), ?_⟩
    have hline : z.length ≤ sizeLine := Nat.le_trans hz (by rw [sizeLine_eq]; decide)
    refine ⟨_, rfl, _, _, _, _, true, rfl, .ty "str", .base (.str z), kit_ty (by decide +kernel), true, rfl, iteF ?_⟩
    refine ⟨_, rfl, z, rfl, hline, _, _, rfl, rfl, _, rfl, ite2 (fun c1 => ?_) (fun c1 => ?_)⟩
    · have c1 := of_decide_eq_true c1
      refine ⟨_, _, rfl, rfl, _, rfl, iteDN (fun c2 => ?_) (fun c2 => ?_)⟩
      · have e : isNm z = false := by unfold isNm; rw [decide_eq_false c2]; simp
        rw [e] at k
        exact k H (Same.refl H)
      · refine ⟨_, rfl, _, _, rfl, .inr (T.barred H), rfl, rfl, _, rfl, ?_⟩
        have eb : inV (.str z) [.str "parish", .str "house", .str "held"] = decide (z ∈ barred) := inV_strs z barred
        rw [show (if false then !inV (V.str z) [V.str "parish", .str "house", .str "held"] else inV (.str z) [.str "parish", .str "house", .str "held"]) = decide (z ∈ barred) from eb]
        refine iteD (fun c3 => ?_) (fun c3 => ?_)
        · have e : isNm z = false := by unfold isNm; rw [decide_eq_true c3]; simp
          rw [e] at k
          exact k H (Same.refl H)
        · have e : isNm z = z.cps.toList.all fun c => decide (c ∈ letters) := by unfold isNm; rw [decide_eq_true c1, decide_eq_true c2, decide_eq_false c3]; rfl
          rw [e] at k
          refine ⟨_, rfl, z, rfl, fun D hD => lc_map z.cps.toList sgn (fun c => .bl (decide (c ∈ letters))) (walk_text z) (by rw [Array.length_toList]; exact hline) (yat_text z) (fun _ => True.intro) (fun c acc N hc hl hy => ?_) ?_⟩
          · exact ⟨rfl, _, rfl, c, _, rfl, rfl, acc, upd_same, hl, by rw [upd_upd]; exact hy⟩
          · refine ⟨D, z.cps.toList.map fun c => decide (c ∈ letters), rfl, SqL.of (by rw [List.map_map]; exact upd_same), ?_⟩
            rw [List.all_map]
            exact k _ (Same.upd (Same.refl H) hD)
    · have c1 : ¬ (1 ≤ (z.length : Int)) := fun q => c1 (decide_eq_true q)
      have e : isNm z = false := by unfold isNm; rw [decide_eq_false c1]; rfl
      rw [e] at k
      exact ⟨_, rfl, iteT (k H (Same.refl H))⟩
/-- a figure's code -/
theorem fig_range {c : Nat} (h : c ∈ figures) : 48 ≤ c ∧ c ≤ 57 := by
  have q : ∀ c ∈ figures, 48 ≤ c ∧ c ≤ 57 := by decide +kernel
  exact q c h
theorem zero_sign (c : Nat) : (V.str ⟨#[c]⟩ = V.str "0") ↔ c = 48 := by
  constructor
  · intro e
    have e1 : (⟨#[c]⟩ : Str) = ("0" : Str) := V.str.inj e
    have e2 : (⟨#[c]⟩ : Str).cps.toList = [48] := by rw [e1]; decide +kernel
    exact (List.cons.inj e2).1
  · rintro rfl
    exact congrArg V.str (by decide +kernel)
theorem int_text {z : Str} (h1 : 1 ≤ (z.length : Int)) (h2 : (z.length : Int) ≤ 9) (h : (z.cps.toList.all fun c => decide (c ∈ figures)) = true) : PySem.intText? z = some ((NumText.digitsVal z.cps.toList : Nat) : Int) := by
  have hl : z.cps.toList.length = z.length := by rw [Array.length_toList]; rfl
  have e := SX.int_S (a := z.cps.toList) (List.all_eq_true.mpr fun c hc => by
    have r := fig_range (of_decide_eq_true (List.all_eq_true.mp h c hc))
    rw [decide_eq_true r.1, decide_eq_true r.2]
    rfl) (fun q => by rw [q] at hl; simp at hl; omega) (by omega)
  rw [SX.S_tl] at e
  exact e
def numV (o : Option Int) : V := match o with
  | none => .non
  | some n => .int n
def spNumber : Sp := fun vs H Q _ => ∃ z : Str, vs = [.str z] ∧ z.length ≤ 1000000 ∧ ∀ H', Same H H' → Q (numV (numOf z)) H'
theorem ok_number_of (T : Txt K mg) : FnOk P w K mg base L2.CX0 1 (a_number_of K) (fdOf K (a_number_of K)) P_number_of spNumber := by
  obtain ⟨t9, h9⟩ := T.i_MOST_FIGURES
  obtain ⟨tf, hf⟩ := T.s_FIGURES
  refine T.F_number_of.ok sc_number_of (fun vs H Q E h => ?_) (fun cdv A outer s H vs Q E hr h => ?_)
  · obtain ⟨z, rfl, _⟩ := h
    rfl
  · obtain ⟨z, rfl, hz, k⟩ := h
    have hline : z.length ≤ sizeLine := Nat.le_trans hz (by rw [sizeLine_eq]; decide)
    refine ⟨_, PSs.nox (pss_cons (ps_if (PW.pt (pw_or (pt_not (pt_val (pe_callB call_isi (by rfl) T.f_isinstance boot_isi (pa_cons (pv 0) (pa_cons (pe_bltn (v := .ty "str") (by rfl) T.f_str boot_str' rfl) pa_nil)))))
        (pw_or1 (pt_not (pt_chain op_le op_le pe_int (pe_callB call_len_str (by rfl) T.f_len PySem.boot_len (pa_cons (pv 0) pa_nil)) (pe_glob (v := .int 9) (by rfl) h9 ⟨t9, rfl⟩))))))
        (pss_one (ps_ret pe_non)) pss_nil)
      (pss_cons (ps_if (PW.pt (pw_or (pt_not (pt_val (pe_callB (cr_all rfl) (by rfl) T.f_all boot_all' (pa_cons (pe_lc (own := [("sign", 1)]) (g := gName 1) (tt := tYes) rfl sc_number_of.nd (pi_str (pv 0)) (blkOk_by (N := N_number_of) (sc := defScope s_number_of) (by decide +kernel))
          (fun _ _ _ _ _ => pg_name (i := 1) sc_number_of.nd rfl (Or.inl rfl)) (fun _ _ _ _ _ => pts_nil)
          (fun _ _ _ _ _ => pe_cmpR op_in_sign (pv 1) (pe_glob (v := .str "0123456789") (by rfl) hf ⟨tf, rfl⟩) (by rfl))) pa_nil))))
        (pw_or1 (PW.pt (pw_and (pt_cmpR op_eq (pe_ix ix_str (pv 0) pe_int (fun _ _ => rfl)) pe_str (nomark _)) (pw_and1 (pt_cmpR op_ne (pv 0) pe_str (nomark _))))))))
        (pss_one (ps_ret pe_non)) pss_nil)
      (pss_one (ps_ret (pe_callTy call_int_str (by rfl) T.f_int boot_int' (pa_cons (pv 0) pa_nil)))))), ?_⟩
    refine ⟨_, rfl, _, _, _, _, true, rfl, .ty "str", .base (.str z), kit_ty (by decide +kernel), true, rfl, iteF ?_⟩
    refine ⟨_, rfl, z, rfl, hline, _, _, rfl, rfl, _, rfl, ite2 (fun c1 => ?_) (fun c1 => ?_)⟩
    · have c1 := of_decide_eq_true c1
      refine ⟨_, _, rfl, rfl, _, rfl, iteDN (fun c2 => ?_) (fun c2 => ?_)⟩
      · have e : numOf z = none := by unfold numOf; rw [decide_eq_false c2, Bool.and_false, if_neg Bool.false_ne_true]
        rw [e] at k
        exact k H (Same.refl H)
      · have e0 : numOf z = if (z.cps.toList.all fun c => decide (c ∈ figures)) = true then if z.cps.toList.head? = some 48 ∧ z ≠ ("0" : Str) then none else some ((NumText.digitsVal z.cps.toList : Nat) : Int) else none := by
          unfold numOf
          rw [decide_eq_true c1, decide_eq_true c2]
          rfl
        refine ⟨_, rfl, z, rfl, fun D hD => lc_map z.cps.toList sgn (fun c => .bl (decide (c ∈ figures))) (walk_text z) (by rw [Array.length_toList]; exact hline) (yat_text z) (fun _ => True.intro) (fun c acc N hc hl hy => ?_) ?_⟩
        · exact ⟨rfl, _, rfl, c, _, rfl, rfl, acc, upd_same, hl, by rw [upd_upd]; exact hy⟩
        · have sm : Same H (upd H D (.lst (z.cps.toList.map fun c => V.bl (decide (c ∈ figures))))) := Same.upd (Same.refl H) hD
          refine ⟨D, z.cps.toList.map fun c => decide (c ∈ figures), rfl, SqL.of (by rw [List.map_map]; exact upd_same), ?_⟩
          rw [List.all_map]
          refine ⟨_, rfl, iteBN (fun c3 => ?_) (fun c3 => ?_)⟩
          · rw [e0, if_neg (by rw [show (z.cps.toList.all fun c => decide (c ∈ figures)) = false from c3]; exact Bool.false_ne_true)] at k
            exact k _ sm
          · have c3 : (z.cps.toList.all fun c => decide (c ∈ figures)) = true := c3
            rw [e0, if_pos c3] at k
            have hlen : z.cps.toList.length = z.length := by rw [Array.length_toList]; rfl
            obtain ⟨c, r, hcr⟩ : ∃ c r, z.cps.toList = c :: r := by
              cases q : z.cps.toList with
              | nil => rw [q] at hlen; simp at hlen; omega
              | cons c r => exact ⟨c, r, rfl⟩
            have h9' : (z.length : Int) ≤ 9 := c2
            refine ⟨_, rfl, z, 0, c, rfl, rfl, hline, by rw [hcr]; exact atI_nat (j := 0) rfl, rfl, _, rfl, iteD (fun c4 => ?_) (fun c4 => ?_)⟩
            · refine ⟨_, rfl, rfl, _, rfl, iteDN (fun c5 => ?_) (fun c5 => ?_)⟩
              · rw [if_pos ⟨by rw [hcr, (zero_sign c).mp c4]; rfl, fun q => c5 (by rw [q])⟩] at k
                exact k _ sm
              · rw [if_neg (fun q => q.2 (V.str.inj c5))] at k
                exact ⟨_, rfl, z, _, rfl, int_text c1 h9' c3, by omega, k _ sm⟩
            · rw [if_neg (fun q => c4 ((zero_sign c).mpr (by have := q.1; rw [hcr] at this; exact Option.some.inj this)))] at k
              exact ⟨_, rfl, z, _, rfl, int_text c1 h9' c3, by omega, k _ sm⟩
    · have c1 : ¬ (1 ≤ (z.length : Int)) := fun q => c1 (decide_eq_true q)
      have e : numOf z = none := by unfold numOf; rw [decide_eq_false c1, Bool.false_and, if_neg Bool.false_ne_true]
      rw [e] at k
      exact ⟨_, rfl, iteT (k H (Same.refl H))⟩
def spWords : Sp := fun vs H Q _ => ∃ z : Str, vs = [.str z] ∧ z.length ≤ 1000000 ∧ (("" : Str) ∈ wordsOf z → ∀ H', Same H H' → Q .non H') ∧ (("" : Str) ∉ wordsOf z → ∀ p, H p = none → Q (.ref p) (upd H p (.lst ((wordsOf z).map V.str))))
theorem ok_words_of (T : Txt K mg) : FnOk P w K mg base L2.CX0 1 (a_words_of K) (fdOf K (a_words_of K)) P_words_of spWords := by
  refine T.F_words_of.ok sc_words_of (fun vs H Q E h => ?_) (fun cdv A outer s H vs Q E hr h => ?_)
  · obtain ⟨z, rfl, _⟩ := h
    rfl
  · obtain ⟨z, rfl, hz, k1, k2⟩ := h
    refine ⟨_, PSs.nox (pss_cons (ps_if (pt_not (pt_val (pe_callB call_isi (by rfl) T.f_isinstance boot_isi (pa_cons (pv 0) (pa_cons (pe_bltn (v := .ty "str") (by rfl) T.f_str boot_str' rfl) pa_nil))))) (pss_one (ps_ret pe_non)) pss_nil)
      (pss_cons (ps_set (i := 1) sc_words_of.nd rfl (Or.inl rfl) (pe_split (pv 0) pe_str))
      (pss_one (ps_ret (pe_ifExp (pt_cmpR op_in_seq pe_str (pv 1) (by rfl)) pe_non (pv 1)))))), ?_⟩
    refine ⟨_, rfl, _, _, _, _, true, rfl, .ty "str", .base (.str z), kit_ty (by decide +kernel), true, rfl, iteF ?_⟩
    refine ⟨_, rfl, ⟨z, rfl⟩, z, " ", rfl, rfl, by decide +kernel, by rw [sizeLine_eq]; omega, fun p hp => ?_⟩
    refine ⟨_, rfl, p, _, rfl, .inl (SqL.of upd_same), rfl, strs_flat _, _, rfl, ?_⟩
    rw [show (if false then !inV (V.str "") ((Txt.split z " ").map V.str) else inV (V.str "") ((Txt.split z " ").map V.str)) = decide (("" : Str) ∈ wordsOf z) from inV_strs _ _]
    refine iteD (fun c => ?_) (fun c => ?_)
    · exact k1 c _ (Same.upd (Same.refl H) hp)
    · exact ⟨_, rfl, k2 c p hp⟩
end
end Pr
end

section
set_option Elab.async false
set_option linter.all false
set_option maxRecDepth 100000
set_option maxHeartbeats 4000000
/-! BadText and Line. -/
namespace Pr
open PySem L2
/-- all but what stands at x is as it was -/
def SameX (x : Addr) (H H' : Hp) : Prop := ∀ b o, b ≠ x → H b = some o → H' b = some o
theorem SameX.refl (x : Addr) (H : Hp) : SameX x H H := fun _ _ _ h => h
theorem Same.toX {H H' : Hp} (s : Same H H') (x : Addr) : SameX x H H' := fun b o _ h => s b o h
theorem SameX.trans {x : Addr} {H H1 H2 : Hp} (a : SameX x H H1) (b : SameX x H1 H2) : SameX x H H2 := fun c o n h => b c o n (a c o n h)
theorem SameX.upd (x : Addr) (H : Hp) (o : HO) : SameX x H (upd H x o) := fun b u n e => by
  rw [upd_ne n]
  exact e
/-- a refusal: word k (from 0) of line n -/
def xW (n k : Int) : List (Str × V) := [("word", V.int k), ("line", V.int n)]
def RefX (C l : Addr) (H : Hp) (E : XK) (n k : Int) : Prop := ∀ H' d, SameX l H H' → H' d = some (.xd (xW n k)) → E (.ref C) (some d) H'
theorem RefX.mono {C l : Addr} {H H1 : Hp} {E : XK} {n k : Int} (r : RefX C l H E n k) (s : SameX l H H1) : RefX C l H1 E n k := fun H' d s' h => r H' d (s.trans s') h
theorem lk_cons (f g : Str) (x : V) (r : List (Str × V)) : ((g, x) :: r).lookup f = if f = g then some x else r.lookup f := by
  show (match f == g with | true => some x | false => r.lookup f) = _
  by_cases h : f = g
  · rw [if_pos h, beq_iff_eq.mpr h]
  · rw [if_neg h, beq_eq_false_iff_ne.mpr h]
def lnf (wl : Addr) (n k : Int) : List (Str × V) := [("words", V.ref wl), ("on_line", V.int n), ("at", V.int k)]
theorem lnf_words (wl : Addr) (n k : Int) : (lnf wl n k).lookup ("words" : Str) = some (V.ref wl) := by
  unfold lnf
  rw [lk_cons, if_pos rfl]
theorem lnf_line (wl : Addr) (n k : Int) : (lnf wl n k).lookup ("on_line" : Str) = some (V.int n) := by
  unfold lnf
  rw [lk_cons, if_neg (by decide +kernel), lk_cons, if_pos rfl]
theorem lnf_at (wl : Addr) (n k : Int) : (lnf wl n k).lookup ("at" : Str) = some (V.int k) := by
  unfold lnf
  rw [lk_cons, if_neg (by decide +kernel), lk_cons, if_neg (by decide +kernel), lk_cons, if_pos rfl]
theorem lnf_no (wl : Addr) (n k : Int) {m : Str} (h1 : ¬ m = "words") (h2 : ¬ m = "on_line") (h3 : ¬ m = "at") : (lnf wl n k).lookup m = none := by
  unfold lnf
  rw [lk_cons, if_neg h1, lk_cons, if_neg h2, lk_cons, if_neg h3]
  rfl
theorem lnf_put (wl : Addr) (n k j : Int) : putF "at" (.int j) (lnf wl n k) = lnf wl n j := by
  show (if ("words" : Str) = "at" then _ else (("words" : Str), V.ref wl) :: (if ("on_line" : Str) = "at" then _ else (("on_line" : Str), V.int n) :: (if ("at" : Str) = "at" then [(("at" : Str), V.int j)] else _))) = _
  rw [if_neg (by decide +kernel), if_neg (by decide +kernel), if_pos rfl]
  rfl
theorem lnf_two (wl : Addr) (n : Int) : putF "on_line" (.int n) (putF "words" (.ref wl) []) = ([("words", V.ref wl), ("on_line", V.int n)] : List (Str × V)) := by
  show (if ("words" : Str) = "on_line" then _ else (("words" : Str), V.ref wl) :: [(("on_line" : Str), V.int n)]) = _
  rw [if_neg (by decide +kernel)]
theorem lnf_made (wl : Addr) (n : Int) : putF "at" (.int 0) (putF "on_line" (.int n) (putF "words" (.ref wl) [])) = lnf wl n 0 := by
  rw [lnf_two]
  show (if ("words" : Str) = "at" then _ else (("words" : Str), V.ref wl) :: (if ("on_line" : Str) = "at" then _ else (("on_line" : Str), V.int n) :: [(("at" : Str), V.int 0)])) = _
  rw [if_neg (by decide +kernel), if_neg (by decide +kernel)]
  rfl
def short (ws : List Str) : Prop := ws.length ≤ 1000002 ∧ ∀ w ∈ ws, w.length ≤ 1000000
theorem wd_short {ws : List Str} (h : short ws) (k : Nat) : (wd ws k).length ≤ 1000000 := by
  unfold wd
  cases e : ws[k]? with
  | none => exact (by decide +kernel : ("" : Str).length ≤ 1000000)
  | some w => exact h.2 w (List.mem_of_getElem? e)
theorem nextK (k : Nat) : ((k : Nat) : Int) + 1 = ((k + 1 : Nat) : Int) := by omega
section
variable {P : Program} {w : World} {K : PySem.W.Frag} {mg : Str → Option Value} {base : Heap}
theorem passX {X : Cx} {E : XK} (tk : Takes X (fun cls d _ H => E cls d H)) : Passes (L2.CX X.prog X.w) X E := passes_call tk fun _ _ _ _ h => h
/-- BadText(line, word): at the made one, whatever it stands on -/
def spBt (K : PySem.W.Frag) : Sp := fun vs H Q _ => ∃ (a : Addr) (x y : V), vs = [.ref a, x, y] ∧ H a = some (exo a (He.ga K "BadText") none) ∧ ∀ dx, H dx = none → dx ≠ a →
  Q .non (upd (upd (upd H dx (exd dx [("line", x)])) a (exo a (He.ga K "BadText") (some dx))) dx (exd dx [("word", y), ("line", x)]))
theorem ok_bt_init (T : Txt K mg) : FnOk P w K mg base L2.CX0 1 (a_bt_init K) (fdOf K (a_bt_init K)) P_bt_init (spBt K) := by
  refine T.F_bt_init.ok sc_bt_init (fun vs H Q E h => ?_) (fun cdv A outer s H vs Q E hr h => ?_)
  · obtain ⟨a, x, y, rfl, _⟩ := h
    rfl
  · obtain ⟨a, x, y, rfl, ha, k⟩ := h
    refine ⟨_, pss_cons (ps_ost (pv 0) (pv 1)) (pss_one (ps_ost (pv 0) (pv 2))), ?_⟩
    refine ⟨_, rfl, _, rfl, a, _, rfl, T.oex, T.na_BadText_line, .inl ⟨ha, fun dx hd hne => ?_⟩⟩
    refine ⟨_, rfl, _, rfl, a, _, rfl, T.oex, T.na_BadText_word, .inr ⟨dx, _, upd_same, by rw [upd_ne hne]; exact upd_same, (by show 1 ≤ 900; decide), ?_⟩⟩
    exact k dx hd hne
/-- Line(words, number) -/
def spLn (K : PySem.W.Frag) : Sp := fun vs H Q _ => ∃ (l dx wl : Addr) (n : Int), vs = [.ref l, .ref wl, .int n] ∧ H l = some (.ins (He.ga K "Line") dx []) ∧ ∀ H', SameX l H H' → H' l = some (.ins (He.ga K "Line") dx (lnf wl n 0)) → Q .non H'
theorem ok_n_init (T : Txt K mg) : FnOk P w K mg base L2.CX0 1 (a_n_init K) (fdOf K (a_n_init K)) P_n_init (spLn K) := by
  refine T.F_n_init.ok sc_n_init (fun vs H Q E h => ?_) (fun cdv A outer s H vs Q E hr h => ?_)
  · obtain ⟨l, dx, wl, n, rfl, _⟩ := h
    rfl
  · obtain ⟨l, dx, wl, n, rfl, hl, k⟩ := h
    refine ⟨_, pss_cons (ps_fld (pv 0) (pv 1) rfl) (pss_cons (ps_fld (pv 0) (pv 2) rfl) (pss_one (ps_fld (pv 0) pe_int rfl))), ?_⟩
    refine ⟨_, rfl, _, rfl, l, _, dx, _, rfl, hl, T.c_Line, T.na_Line_words, (by show 0 < 1000; decide), ?_⟩
    refine ⟨_, rfl, _, rfl, l, _, dx, _, rfl, upd_same, T.c_Line, T.na_Line_on_line, (by show 1 < 1000; decide), ?_⟩
    refine ⟨_, rfl, l, _, dx, _, rfl, upd_same, T.c_Line, T.na_Line_at, (by rw [lnf_two]; show 2 < 1000; decide), ?_⟩
    refine k _ ?_ (by rw [upd_same, lnf_made])
    exact ((SameX.upd l H _).trans (SameX.upd l _ _)).trans (SameX.upd l _ _)
def LnAt (K : PySem.W.Frag) (H : Hp) (l dx wl : Addr) (n : Int) (k : Nat) : Prop := H l = some (.ins (He.ga K "Line") dx (lnf wl n k))
def spRefuse (K : PySem.W.Frag) : Sp := fun vs H _ E => ∃ (l dx wl : Addr) (n : Int) (k : Nat), vs = [.ref l] ∧ LnAt K H l dx wl n k ∧ RefX (He.ga K "BadText") l H E n ((k : Int) + 1)
theorem ok_n_refuse (T : Txt K mg) : FnOk P w K mg base (L2.CX P w) 3 (a_n_refuse K) (fdOf K (a_n_refuse K)) P_n_refuse (spRefuse K) := by
  refine T.F_n_refuse.ok sc_n_refuse (fun vs H Q E h => ?_) (fun cdv A outer s H vs Q E hr h => ?_)
  · obtain ⟨l, dx, wl, n, k, rfl, _⟩ := h
    rfl
  · obtain ⟨l, dx, wl, n, k, rfl, hl, e⟩ := h
    refine ⟨_, pss_one (ps_raise rfl (takes_of rfl rfl rfl rfl) (pmk_oex T.oex T.oexI T.oexT (ok_bt_init T) hr T.b_bt_init .nil pass0 (by rfl) T.g_BadText (pa_cons (pe_fld (pv 0) rfl) (pa_cons (pe_op op_add (pe_fld (pv 0) rfl) pe_int) pa_nil)))), ?_⟩
    refine ⟨_, rfl, l, _, dx, _, _, rfl, hl, T.c_Line, T.na_Line_on_line, lnf_line _ _ _, _, rfl, l, _, dx, _, _, rfl, hl, T.c_Line, T.na_Line_at, lnf_at _ _ _, _, _, rfl, rfl, (by show 2 ≤ 1000; decide), fun a ha => ?_⟩
    refine ⟨a, _, _, rfl, upd_same, fun d hd hne => ⟨rfl, d, _, by rw [upd_ne (Ne.symm hne)]; exact upd_same, upd_same, ?_, ?_⟩⟩
    · rw [upd_ne hne] at hd
      exact hd
    · refine e _ d (Same.toX (fun b o eb => ?_) l) upd_same
      have hda : H d = none := by
        rw [upd_ne hne] at hd
        exact hd
      have nd : b ≠ d := ne_of_none eb hda
      have na : b ≠ a := ne_of_none eb ha
      rw [upd_ne nd, del_ne na, upd_ne nd, upd_ne na, upd_ne nd, upd_ne na]
      exact eb
def spNext (K : PySem.W.Frag) : Sp := fun vs H Q _ => ∃ (l dx wl : Addr) (n : Int) (k : Nat) (ws : List Str), vs = [.ref l] ∧ LnAt K H l dx wl n k ∧ H wl = some (.lst (ws.map V.str)) ∧ Q (.str (wd ws k)) H
theorem atI_map (ws : List Str) (k : Nat) {z : Str} (h : ws[k]? = some z) : atI (ws.map V.str) ((k : Nat) : Int) = some (V.str z) := atI_nat (by rw [List.getElem?_map, h]; rfl)
theorem ok_n_next_word (T : Txt K mg) : FnOk P w K mg base L2.CX0 1 (a_n_next_word K) (fdOf K (a_n_next_word K)) P_n_next_word (spNext K) := by
  refine T.F_n_next_word.ok sc_n_next_word (fun vs H Q E h => ?_) (fun cdv A outer s H vs Q E hr h => ?_)
  · obtain ⟨l, dx, wl, n, k, ws, rfl, _⟩ := h
    rfl
  · obtain ⟨l, dx, wl, n, k, ws, rfl, hl, hw, q⟩ := h
    refine ⟨_, pss_one (ps_ret (pe_ifExp (pt_cmpR op_lt (pe_fld (pv 0) rfl) (pe_callB call_len_seq (by rfl) T.f_len PySem.boot_len (pa_cons (pe_fld (pv 0) rfl) pa_nil)) (nomark _))
      (pe_ix ix_list (pe_fld (pv 0) rfl) (pe_fld (pv 0) rfl) (fun _ _ => rfl)) pe_str)), ?_⟩
    refine ⟨_, rfl, l, _, dx, _, _, rfl, hl, T.c_Line, T.na_Line_at, lnf_at _ _ _, _, rfl, l, _, dx, _, _, rfl, hl, T.c_Line, T.na_Line_words, lnf_words _ _ _, wl, _, rfl, .inl (SqL.of hw), _, _, rfl, rfl, _, rfl, iteD (fun c => ?_) (fun c => ?_)⟩
    · have c : k < ws.length := by
        rw [List.length_map] at c
        omega
      refine ⟨_, rfl, l, _, dx, _, _, rfl, hl, T.c_Line, T.na_Line_words, lnf_words _ _ _, _, rfl, l, _, dx, _, _, rfl, hl, T.c_Line, T.na_Line_at, lnf_at _ _ _, wl, _, _, _, rfl, rfl, SqL.of hw, atI_map ws k (List.getElem?_eq_getElem c), ?_⟩
      have e : wd ws k = ws[k] := by
        unfold wd
        rw [List.getElem?_eq_getElem c]
        rfl
      rw [e] at q
      exact q
    · have c : ws.length ≤ k := by
        rw [List.length_map] at c
        omega
      have e : wd ws k = "" := by
        unfold wd
        rw [List.getElem?_eq_none c]
        rfl
      rw [e] at q
      exact q
def spNeeded (K : PySem.W.Frag) : Sp := fun vs H Q E => ∃ (l dx wl : Addr) (n : Int) (k : Nat) (b : Bool) (v : V), vs = [.ref l, .bl b, v] ∧ LnAt K H l dx wl n k ∧ (b = false → RefX (He.ga K "BadText") l H E n ((k : Int) + 1)) ∧
  (b = true → ∀ H', SameX l H H' → LnAt K H' l dx wl n (k + 1) → Q v H')
theorem ok_n_needed (T : Txt K mg) : FnOk P w K mg base (L2.CX P w) 4 (a_n_needed K) (fdOf K (a_n_needed K)) P_n_needed (spNeeded K) := by
  refine T.F_n_needed.ok sc_n_needed (fun vs H Q E h => ?_) (fun cdv A outer s H vs Q E hr h => ?_)
  · obtain ⟨l, dx, wl, n, k, b, v, rfl, _⟩ := h
    rfl
  · obtain ⟨l, dx, wl, n, k, b, v, rfl, hl, e, q⟩ := h
    refine ⟨_, pss_cons (ps_if (pt_not (pt_val (pv 1))) (pss_one (ps_expr (pe_meth0 (pv 0) T.c_Line T.m_Line_refuse (ok_n_refuse T) hr T.b_n_refuse .nil (passX (takes_of rfl rfl rfl rfl))))) pss_nil)
      (pss_cons (ps_fld (pv 0) (pe_op op_add (pe_fld (pv 0) rfl) pe_int) rfl) (pss_one (ps_ret (pv 2)))), ?_⟩
    refine ⟨_, rfl, b, rfl, iteBN (fun c => ?_) (fun c => ?_)⟩
    · exact ⟨_, rfl, l, dx, _, rfl, hl, lnf_no _ _ _ (by decide +kernel) (by decide +kernel) (by decide +kernel), l, dx, wl, n, k, rfl, hl, e c⟩
    · refine ⟨_, rfl, l, _, dx, _, _, rfl, hl, T.c_Line, T.na_Line_at, lnf_at _ _ _, _, _, rfl, rfl, _, rfl, l, _, dx, _, rfl, hl, T.c_Line, T.na_Line_at, (by show 3 < 1000; decide), ?_⟩
      refine ⟨_, rfl, q c _ (SameX.upd l H _) ?_⟩
      unfold LnAt
      rw [upd_same, lnf_put, nextK]
def spOfWords (K : PySem.W.Frag) : Sp := fun vs H Q E => ∃ (l dx wl so : Addr) (n : Int) (k : Nat) (ws ss : List Str), vs = [.ref l, .ref so] ∧ LnAt K H l dx wl n k ∧ H wl = some (.lst (ws.map V.str)) ∧ H so = some (.lst (ss.map V.str)) ∧
  (wd ws k ∉ ss → RefX (He.ga K "BadText") l H E n ((k : Int) + 1)) ∧ (wd ws k ∈ ss → ∀ H', SameX l H H' → LnAt K H' l dx wl n (k + 1) → Q (.str (wd ws k)) H')
theorem ok_n_of_words (T : Txt K mg) : FnOk P w K mg base (L2.CX P w) 5 (a_n_of_words K) (fdOf K (a_n_of_words K)) P_n_of_words (spOfWords K) := by
  refine T.F_n_of_words.ok sc_n_of_words (fun vs H Q E h => ?_) (fun cdv A outer s H vs Q E hr h => ?_)
  · obtain ⟨l, dx, wl, so, n, k, ws, ss, rfl, _⟩ := h
    rfl
  · obtain ⟨l, dx, wl, so, n, k, ws, ss, rfl, hl, hw, hs, e, q⟩ := h
    have no : ∀ {m : Str}, ¬ m = "words" → ¬ m = "on_line" → ¬ m = "at" → (lnf wl n k).lookup m = none := fun h1 h2 h3 => lnf_no _ _ _ h1 h2 h3
    refine ⟨_, pss_one (ps_ret (pe_meth (pv 0) T.c_Line T.m_Line_needed (ok_n_needed T) hr T.b_n_needed .nil (passX (takes_of rfl rfl rfl rfl))
      (pa_cons (pe_cmpR op_in_seq (pe_meth0 (pv 0) T.c_Line T.m_Line_next_word (ok_n_next_word T) (hr.mono (by decide)) T.b_n_next_word .nil (E := E0) pass0) (pv 1) (by rfl))
      (pa_cons (pe_meth0 (pv 0) T.c_Line T.m_Line_next_word (ok_n_next_word T) (hr.mono (by decide)) T.b_n_next_word .nil (E := E0) pass0) pa_nil)))), ?_⟩
    refine ⟨_, rfl, l, dx, _, rfl, hl, no (by decide +kernel) (by decide +kernel) (by decide +kernel), ?_⟩
    refine ⟨_, rfl, l, dx, _, rfl, hl, no (by decide +kernel) (by decide +kernel) (by decide +kernel), l, dx, wl, n, k, ws, rfl, hl, hw, _, rfl, so, _, rfl, .inl (SqL.of hs), rfl, strs_flat _, ?_⟩
    refine ⟨_, rfl, l, dx, _, rfl, hl, no (by decide +kernel) (by decide +kernel) (by decide +kernel), l, dx, wl, n, k, ws, rfl, hl, hw, ?_⟩
    refine ⟨l, dx, wl, n, k, _, _, rfl, hl, fun c => e fun z => ?_, fun c => q ?_⟩
    · rw [show (if false then !inV (V.str (wd ws k)) (ss.map V.str) else inV (V.str (wd ws k)) (ss.map V.str)) = decide (wd ws k ∈ ss) from inV_strs _ _] at c
      exact of_decide_eq_false c z
    · rw [show (if false then !inV (V.str (wd ws k)) (ss.map V.str) else inV (V.str (wd ws k)) (ss.map V.str)) = decide (wd ws k ∈ ss) from inV_strs _ _] at c
      exact of_decide_eq_true c
def spUnlike (K : PySem.W.Frag) : Sp := fun vs H Q E => ∃ (l dx wl so : Addr) (n : Int) (k : Nat) (ws ss : List Str), vs = [.ref l, .ref so] ∧ LnAt K H l dx wl n k ∧ H wl = some (.lst (ws.map V.str)) ∧ H so = some (.lst (ss.map V.str)) ∧ short ws ∧
  (¬ (isNm (wd ws k) = true ∧ wd ws k ∉ ss) → RefX (He.ga K "BadText") l H E n ((k : Int) + 1)) ∧ (isNm (wd ws k) = true ∧ wd ws k ∉ ss → ∀ H', SameX l H H' → LnAt K H' l dx wl n (k + 1) → Q (.str (wd ws k)) H')
theorem ok_n_name_unlike (T : Txt K mg) : FnOk P w K mg base (L2.CX P w) 5 (a_n_name_unlike K) (fdOf K (a_n_name_unlike K)) P_n_name_unlike (spUnlike K) := by
  refine T.F_n_name_unlike.ok sc_n_name_unlike (fun vs H Q E h => ?_) (fun cdv A outer s H vs Q E hr h => ?_)
  · obtain ⟨l, dx, wl, so, n, k, ws, ss, rfl, _⟩ := h
    rfl
  · obtain ⟨l, dx, wl, so, n, k, ws, ss, rfl, hl, hw, hs, sh, e, q⟩ := h
    have no : ∀ {m : Str}, ¬ m = "words" → ¬ m = "on_line" → ¬ m = "at" → (lnf wl n k).lookup m = none := fun h1 h2 h3 => lnf_no _ _ _ h1 h2 h3
    refine ⟨_, pss_one (ps_ret (pe_meth (pv 0) T.c_Line T.m_Line_needed (ok_n_needed T) hr T.b_n_needed .nil (passX (takes_of rfl rfl rfl rfl))
      (pa_cons (pe_and (pe_call (ok_is_name T) (hr.mono (by decide)) (by rfl) T.g_is_name (T.F_is_name).kp T.b_is_name .nil (E := E0) pass0 (pa_cons (pe_meth0 (pv 0) T.c_Line T.m_Line_next_word (ok_n_next_word T) (hr.mono (by decide)) T.b_n_next_word .nil (E := E0) pass0) pa_nil))
        (pe_one (pe_cmpR op_notIn_seq (pe_meth0 (pv 0) T.c_Line T.m_Line_next_word (ok_n_next_word T) (hr.mono (by decide)) T.b_n_next_word .nil (E := E0) pass0) (pv 1) (by rfl))))
      (pa_cons (pe_meth0 (pv 0) T.c_Line T.m_Line_next_word (ok_n_next_word T) (hr.mono (by decide)) T.b_n_next_word .nil (E := E0) pass0) pa_nil)))), ?_⟩
    refine ⟨_, rfl, l, dx, _, rfl, hl, no (by decide +kernel) (by decide +kernel) (by decide +kernel), ?_⟩
    refine ⟨_, rfl, l, dx, _, rfl, hl, no (by decide +kernel) (by decide +kernel) (by decide +kernel), l, dx, wl, n, k, ws, rfl, hl, hw, ?_⟩
    refine ⟨_, rfl, wd_short sh k, fun H1 s1 => ⟨_, rfl, ?_⟩⟩
    have hl1 : LnAt K H1 l dx wl n k := s1 _ _ hl
    have hw1 := s1 _ _ hw
    have hs1 := s1 _ _ hs
    refine iteB (fun c1 => ?_) (fun c1 => ?_)
    · refine ⟨_, rfl, l, dx, _, rfl, hl1, no (by decide +kernel) (by decide +kernel) (by decide +kernel), l, dx, wl, n, k, ws, rfl, hl1, hw1, _, rfl, so, _, rfl, .inl (SqL.of hs1), rfl, strs_flat _, ?_⟩
      rw [show (if true then !inV (V.str (wd ws k)) (ss.map V.str) else inV (V.str (wd ws k)) (ss.map V.str)) = !decide (wd ws k ∈ ss) from congrArg (!·) (inV_strs _ _)]
      refine ⟨_, rfl, l, dx, _, rfl, hl1, no (by decide +kernel) (by decide +kernel) (by decide +kernel), l, dx, wl, n, k, ws, rfl, hl1, hw1, ?_⟩
      refine ⟨l, dx, wl, n, k, _, _, rfl, hl1, fun c => (e fun z => ?_).mono (Same.toX s1 l), fun c H' s' h' => q ⟨c1, ?_⟩ H' ((Same.toX s1 l).trans s') h'⟩
      · rw [decide_eq_false z.2] at c
        cases c
      · intro z
        rw [decide_eq_true z] at c
        cases c
    · refine ⟨_, rfl, l, dx, _, rfl, hl1, no (by decide +kernel) (by decide +kernel) (by decide +kernel), l, dx, wl, n, k, ws, rfl, hl1, hw1, ?_⟩
      refine ⟨l, dx, wl, n, k, _, _, rfl, hl1, fun c => (e fun z => ?_).mono (Same.toX s1 l), fun c => nomatch c⟩
      rw [c1] at z
      cases z.1
def spWholeN (K : PySem.W.Frag) : Sp := fun vs H Q E => ∃ (l dx wl : Addr) (n lo hi : Int) (k : Nat) (ws : List Str), vs = [.ref l, .int lo, .int hi] ∧ LnAt K H l dx wl n k ∧ H wl = some (.lst (ws.map V.str)) ∧ short ws ∧
  (numIn (wd ws k) lo hi = none → RefX (He.ga K "BadText") l H E n ((k : Int) + 1)) ∧ (∀ m, numIn (wd ws k) lo hi = some m → ∀ H', SameX l H H' → LnAt K H' l dx wl n (k + 1) → Q (.int m) H')
theorem ok_n_whole (T : Txt K mg) : FnOk P w K mg base (L2.CX P w) 5 (a_n_whole K) (fdOf K (a_n_whole K)) P_n_whole (spWholeN K) := by
  refine T.F_n_whole.ok sc_n_whole (fun vs H Q E h => ?_) (fun cdv A outer s H vs Q E hr h => ?_)
  · obtain ⟨l, dx, wl, n, lo, hi, k, ws, rfl, _⟩ := h
    rfl
  · obtain ⟨l, dx, wl, n, lo, hi, k, ws, rfl, hl, hw, sh, e, q⟩ := h
    have no : ∀ {m : Str}, ¬ m = "words" → ¬ m = "on_line" → ¬ m = "at" → (lnf wl n k).lookup m = none := fun h1 h2 h3 => lnf_no _ _ _ h1 h2 h3
    refine ⟨_, pss_cons (ps_set (i := 3) sc_n_whole.nd rfl (Or.inl rfl) (pe_call (ok_number_of T) (hr.mono (by decide)) (by rfl) T.g_number_of (T.F_number_of).kp T.b_number_of .nil (E := E0) pass0 (pa_cons (pe_meth0 (pv 0) T.c_Line T.m_Line_next_word (ok_n_next_word T) (hr.mono (by decide)) T.b_n_next_word .nil (E := E0) pass0) pa_nil)))
      (pss_one (ps_ret (pe_meth (pv 0) T.c_Line T.m_Line_needed (ok_n_needed T) hr T.b_n_needed .nil (passX (takes_of rfl rfl rfl rfl))
      (pa_cons (pe_and (pe_cmpR op_notN (pv 3) pe_non (nomark _)) (pe_one (pe_call (ok_is_whole T) (hr.mono (by decide)) (by rfl) T.g_is_whole (T.F_is_whole).kp T.b_is_whole .nil (E := E0) pass0 (pa_cons (pv 3) (pa_cons (pv 1) (pa_cons (pv 2) pa_nil))))))
      (pa_cons (pv 3) pa_nil))))), ?_⟩
    refine ⟨_, rfl, l, dx, _, rfl, hl, no (by decide +kernel) (by decide +kernel) (by decide +kernel), l, dx, wl, n, k, ws, rfl, hl, hw, ?_⟩
    refine ⟨_, rfl, wd_short sh k, fun H1 s1 => ?_⟩
    have hl1 : LnAt K H1 l dx wl n k := s1 _ _ hl
    refine ⟨_, rfl, l, dx, _, rfl, hl1, no (by decide +kernel) (by decide +kernel) (by decide +kernel), ?_⟩
    cases c0 : numOf (wd ws k) with
    | none =>
      have en : numIn (wd ws k) lo hi = none := by unfold numIn; rw [c0]
      refine ⟨_, rfl, rfl, _, rfl, iteF ⟨_, rfl, ?_⟩⟩
      exact ⟨l, dx, wl, n, k, _, _, rfl, hl1, fun _ => (e en).mono (Same.toX s1 l), fun c => nomatch c⟩
    | some m =>
      have en : numIn (wd ws k) lo hi = if lo ≤ m ∧ m ≤ hi then some m else none := by unfold numIn; rw [c0]
      refine ⟨_, rfl, rfl, _, rfl, iteT ⟨_, rfl, _, rfl, _, rfl, m, lo, hi, rfl, _, rfl, ?_⟩⟩
      refine ⟨l, dx, wl, n, k, _, _, rfl, hl1, fun c => (e ?_).mono (Same.toX s1 l), fun c H' s' h' => q m ?_ H' ((Same.toX s1 l).trans s') h'⟩
      · rw [en, if_neg (of_decide_eq_false c)]
      · rw [en, if_pos (of_decide_eq_true c)]
def spOver (K : PySem.W.Frag) : Sp := fun vs H Q E => ∃ (l dx wl : Addr) (n : Int) (k : Nat) (ws : List Str), vs = [.ref l] ∧ LnAt K H l dx wl n k ∧ H wl = some (.lst (ws.map V.str)) ∧
  (k < ws.length → RefX (He.ga K "BadText") l H E n ((k : Int) + 1)) ∧ (ws.length ≤ k → Q .non H)
theorem ok_n_over (T : Txt K mg) : FnOk P w K mg base (L2.CX P w) 4 (a_n_over K) (fdOf K (a_n_over K)) P_n_over (spOver K) := by
  refine T.F_n_over.ok sc_n_over (fun vs H Q E h => ?_) (fun cdv A outer s H vs Q E hr h => ?_)
  · obtain ⟨l, dx, wl, n, k, ws, rfl, _⟩ := h
    rfl
  · obtain ⟨l, dx, wl, n, k, ws, rfl, hl, hw, e, q⟩ := h
    refine ⟨_, pss_one (ps_if (pt_cmpR op_lt (pe_fld (pv 0) rfl) (pe_callB call_len_seq (by rfl) T.f_len PySem.boot_len (pa_cons (pe_fld (pv 0) rfl) pa_nil)) (nomark _))
      (pss_one (ps_expr (pe_meth0 (pv 0) T.c_Line T.m_Line_refuse (ok_n_refuse T) hr T.b_n_refuse .nil (passX (takes_of rfl rfl rfl rfl))))) pss_nil), ?_⟩
    refine ⟨_, rfl, l, _, dx, _, _, rfl, hl, T.c_Line, T.na_Line_at, lnf_at _ _ _, _, rfl, l, _, dx, _, _, rfl, hl, T.c_Line, T.na_Line_words, lnf_words _ _ _, wl, _, rfl, .inl (SqL.of hw), _, _, rfl, rfl, _, rfl, iteD (fun c => ?_) (fun c => ?_)⟩
    · have c : k < ws.length := by
        rw [List.length_map] at c
        omega
      exact ⟨_, rfl, l, dx, _, rfl, hl, lnf_no _ _ _ (by decide +kernel) (by decide +kernel) (by decide +kernel), l, dx, wl, n, k, rfl, hl, e c⟩
    · have c : ws.length ≤ k := by
        rw [List.length_map] at c
        omega
      exact q c
end
end Pr
end

section
set_option Elab.async false
set_option linter.all false
/-! A reading told through a relation of one's own: many ways into one. -/
namespace Pr
open PySem L2
def tCut (t : TE) : TE := fun σ H Q => ∃ R : VK, t σ H R ∧ ∀ v H', R v H' → Q v H'
def sCut (t : TS) : TS := fun D σ H => ∃ R : L2.St → Hp → Prop, t { D with nx := R } σ H ∧ ∀ σ' H', R σ' H' → D.nx σ' H'
theorem pe_cut {X : Cx} {e : Expr} {t : TE} (h : PE X e t) : PE X e (tCut t) := ⟨fun pins s σ H Q I ⟨R, r, m⟩ => thn (h.run pins s σ H R I r) fun _ _ ⟨v, H', J, rv, q⟩ => ⟨v, H', J, rv, m v H' q⟩⟩
theorem ps_cut {X : Cx} {st : Stmt} {t : TS} (h : PS X st t) : PS X st (sCut t) := ⟨fun pins s σ H D I ⟨R, r, m⟩ => thn (h.run pins s σ H _ I r) fun f s' q => by
  cases f with
  | next =>
    obtain ⟨σ', H', J, q⟩ := q
    exact ⟨σ', H', J, m σ' H' q⟩
  | brk => exact q
  | cont => exact q
  | ret u => exact q⟩
def bCut (t : TT) : TT := fun σ H Q => ∃ R : Bool → Hp → Prop, t σ H R ∧ ∀ v H', R v H' → Q v H'
theorem pt_cut {X : Cx} {e : Expr} {t : TT} (h : PT X e t) : PT X e (bCut t) := ⟨fun pins s σ H Q I ⟨R, r, m⟩ => thn (h.run pins s σ H R I r) fun _ _ ⟨H', J, q⟩ => ⟨H', J, m _ H' q⟩⟩
end Pr
end

section
set_option Elab.async false
set_option linter.all false
set_option maxRecDepth 100000
set_option maxHeartbeats 4000000
/-! How a half told county lies in the heap: what is finished is frozen (Z), the lists that still grow are not. The same for the program (parishes and houses are tuples) and for the law's own reader (lists). -/
namespace Pr
open PySem L2
def All2 {α β : Type} (R : α → β → Prop) : List α → List β → Prop
  | [], [] => True
  | a :: as, b :: bs => R a b ∧ All2 R as bs
  | _, _ => False
theorem All2.mono {α β : Type} {R S : α → β → Prop} (h : ∀ a b, R a b → S a b) : ∀ {as : List α} {bs : List β}, All2 R as bs → All2 S as bs
  | [], [], _ => True.intro
  | a :: as, b :: bs, x => ⟨h _ _ x.1, All2.mono h x.2⟩
  | [], _ :: _, x => x.elim
  | _ :: _, [], x => x.elim
theorem All2.snoc {α β : Type} {R : α → β → Prop} {a : α} {b : β} (r : R a b) : ∀ {as : List α} {bs : List β}, All2 R as bs → All2 R (as ++ [a]) (bs ++ [b])
  | [], [], _ => ⟨r, True.intro⟩
  | _ :: as, _ :: bs, x => ⟨x.1, All2.snoc r x.2⟩
  | [], _ :: _, x => x.elim
  | _ :: _, [], x => x.elim
theorem All2.length {α β : Type} {R : α → β → Prop} : ∀ {as : List α} {bs : List β}, All2 R as bs → as.length = bs.length
  | [], [], _ => rfl
  | _ :: as, _ :: bs, x => congrArg Nat.succ (All2.length x.2)
  | [], _ :: _, x => x.elim
  | _ :: _, [], x => x.elim
theorem All2.get {α β : Type} {R : α → β → Prop} : ∀ {as : List α} {bs : List β}, All2 R as bs → ∀ {i : Nat} {a : α}, as[i]? = some a → ∃ b, bs[i]? = some b ∧ R a b
  | [], [], _, i, a, h => by simp at h
  | x :: as, y :: bs, q, 0, a, h => ⟨y, rfl, by cases (Option.some.inj h); exact q.1⟩
  | x :: as, y :: bs, q, i + 1, a, h => All2.get q.2 (i := i) h
  | [], _ :: _, x, _, _, _ => x.elim
  | _ :: _, [], x, _, _, _ => x.elim
/-- by items of one side: α's are made of β's -/
theorem All2.split_last {α β : Type} {R : α → β → Prop} {as : List α} {bs : List β} {b : β} (h : All2 R as (bs ++ [b])) : ∃ as' a, as = as' ++ [a] ∧ All2 R as' bs ∧ R a b := by
  induction bs generalizing as with
  | nil =>
    cases as with
    | nil => exact h.elim
    | cons a r =>
      cases r with
      | nil => exact ⟨[], a, rfl, True.intro, h.1⟩
      | cons _ _ => exact h.2.elim
  | cons c bs ih =>
    cases as with
    | nil => exact h.elim
    | cons a r =>
      obtain ⟨as', a', e, h1, h2⟩ := ih h.2
      exact ⟨a :: as', a', by rw [e]; rfl, ⟨h.1, h1⟩, h2⟩
def HeldAt (Z : Hp) (v : V) (g : Held) : Prop := ∃ a, v = .ref a ∧ Z a = some (.tup [.str g.1, .int g.2.1, .int g.2.2])
def HouseAt (mk : List V → HO) (Z : Hp) (v : V) (h : House) : Prop := ∃ a G ws, v = .ref a ∧ Z a = some (mk [.str h.1, .int h.2.1, .ref G]) ∧ Z G = some (.lst ws) ∧ All2 (HeldAt Z) ws h.2.2
def ParAt (mk : List V → HO) (Z : Hp) (v : V) (p : Parish) : Prop := ∃ a L us, v = .ref a ∧ Z a = some (mk [.str p.1, .ref L]) ∧ Z L = some (.lst us) ∧ All2 (HouseAt mk Z) us p.2
theorem HeldAt.mono {Z Z' : Hp} (s : Same Z Z') (v : V) (g : Held) (h : HeldAt Z v g) : HeldAt Z' v g := by
  obtain ⟨a, e, h⟩ := h
  exact ⟨a, e, s _ _ h⟩
theorem HouseAt.mono {mk : List V → HO} {Z Z' : Hp} (s : Same Z Z') (v : V) (g : House) (h : HouseAt mk Z v g) : HouseAt mk Z' v g := by
  obtain ⟨a, G, ws, e, h1, h2, h3⟩ := h
  exact ⟨a, G, ws, e, s _ _ h1, s _ _ h2, h3.mono (HeldAt.mono s)⟩
theorem ParAt.mono {mk : List V → HO} {Z Z' : Hp} (s : Same Z Z') (v : V) (g : Parish) (h : ParAt mk Z v g) : ParAt mk Z' v g := by
  obtain ⟨a, G, ws, e, h1, h2, h3⟩ := h
  exact ⟨a, G, ws, e, s _ _ h1, s _ _ h2, h3.mono (HouseAt.mono s)⟩
inductive StAt (mk : List V → HO) (Z H : Hp) (F : Addr) (av : List Addr) : Rl → Prop
  | none (h : H F = some (.lst [])) : StAt mk Z H F av ⟨[], Option.none⟩
  | par {vs : List V} {done : List Parish} {a L : Addr} {pn : Str} (hv : All2 (ParAt mk Z) vs done) (hF : H F = some (.lst (vs ++ [.ref a]))) (ha : Z a = some (mk [.str pn, .ref L])) (hL : H L = some (.lst [])) (zL : Z L = Option.none) (nL : L ≠ F) (aL : L ∉ av) :
      StAt mk Z H F av ⟨done, some ⟨pn, [], Option.none⟩⟩
  | hou {vs us ws : List V} {done : List Parish} {hd : List House} {a L b G : Addr} {pn : Str} {h : House} (hv : All2 (ParAt mk Z) vs done) (hF : H F = some (.lst (vs ++ [.ref a]))) (ha : Z a = some (mk [.str pn, .ref L])) (hL : H L = some (.lst (us ++ [.ref b]))) (zL : Z L = Option.none) (nL : L ≠ F) (aL : L ∉ av)
      (hu : All2 (HouseAt mk Z) us hd) (hb : Z b = some (mk [.str h.1, .int h.2.1, .ref G])) (hG : H G = some (.lst ws)) (zG : Z G = Option.none) (nG : G ≠ F) (nGL : G ≠ L) (aG : G ∉ av) (hw : All2 (HeldAt Z) ws h.2.2) : StAt mk Z H F av ⟨done, some ⟨pn, hd, some h⟩⟩
structure Sto (mk : List V → HO) (Z H : Hp) (F : Addr) (av : List Addr) (st : Rl) : Prop where
  zh : Same Z H
  zF : Z F = none
  nF : F ∉ av
  zav : ∀ x ∈ av, Z x = none
  live : ∀ x ∈ av, H x ≠ none
  st : StAt mk Z H F av st
def hide (H : Hp) (xs : List Addr) : Hp := fun a => if a ∈ xs then none else H a
theorem hide_some {H : Hp} {xs : List Addr} {a : Addr} {u : HO} (h : hide H xs a = some u) : a ∉ xs ∧ H a = some u := by
  unfold hide at h
  split at h
  · cases h
  · rename_i n
    exact ⟨n, h⟩
theorem hide_of {H : Hp} {xs : List Addr} {a : Addr} (n : a ∉ xs) : hide H xs a = H a := if_neg n
theorem hide_in {H : Hp} {xs : List Addr} {a : Addr} (n : a ∈ xs) : hide H xs a = none := if_pos n
theorem hide_same (H : Hp) (xs : List Addr) : Same (hide H xs) H := fun _ _ h => (hide_some h).2
variable {mk : List V → HO} {Z H H' : Hp} {F : Addr} {av : List Addr} {st : Rl}
theorem Sto.new (s : Sto mk Z H F av st) {p : Addr} (n : H p = none) : p ∉ F :: av := fun m => by
  rcases List.mem_cons.mp m with m | m
  · have hF : ∃ fs, H F = some (.lst fs) := by
      cases s.st with
      | none h => exact ⟨_, h⟩
      | par _ h => exact ⟨_, h⟩
      | hou _ h => exact ⟨_, h⟩
    obtain ⟨fs, hF⟩ := hF
    rw [m, hF] at n
    cases n
  · exact s.live p m n
theorem Sto.ss (s : Sto mk Z H F av st) : Same Z (hide H (F :: av)) := fun b u e => by
  rw [hide_of]
  · exact s.zh b u e
  · intro m
    rcases List.mem_cons.mp m with m | m
    · rw [m, s.zF] at e
      cases e
    · rw [s.zav b m] at e
      cases e
/-- all that was told, in H but for F and what is avoided -/
theorem Sto.co (s : Sto mk Z H F av st) : ∃ fs, H F = some (.lst fs) ∧ All2 (ParAt mk (hide H (F :: av))) fs st.all := by
  have ss := s.ss
  have hq : ∀ {x : Addr} {u : HO}, x ≠ F → x ∉ av → H x = some u → hide H (F :: av) x = some u := fun n1 n2 e => by
    rw [hide_of]
    · exact e
    · intro m
      rcases List.mem_cons.mp m with m | m
      · exact n1 m
      · exact n2 m
  cases s.st with
  | none h => exact ⟨_, h, True.intro⟩
  | par hv hF ha hL zL nL aL =>
    refine ⟨_, hF, ?_⟩
    exact (hv.mono (ParAt.mono ss)).snoc ⟨_, _, [], rfl, ss _ _ ha, hq nL aL hL, True.intro⟩
  | hou hv hF ha hL zL nL aL hu hb hG zG nG nGL aG hw =>
    refine ⟨_, hF, ?_⟩
    exact (hv.mono (ParAt.mono ss)).snoc ⟨_, _, _, rfl, ss _ _ ha, hq nL aL hL, (hu.mono (HouseAt.mono ss)).snoc ⟨_, _, _, rfl, ss _ _ hb, hq nG aG hG, hw.mono (HeldAt.mono ss)⟩⟩
theorem Sto.flen (s : Sto mk Z H F av st) : ∃ fs, H F = some (.lst fs) ∧ fs.length = st.all.length := by
  obtain ⟨fs, h, a⟩ := s.co
  exact ⟨fs, h, a.length⟩
/-- what lies elsewhere may change -/
theorem Sto.other (s : Sto mk Z H F av st) {x : Addr} (hx : x ∈ av) (k : SameX x H H') (lx : H' x ≠ none) : Sto mk Z H' F av st := by
  have ne : ∀ {b : Addr}, b ∉ av → b ≠ x := fun h q => h (q ▸ hx)
  refine ⟨fun b u e => k b u (fun q => ?_) (s.zh b u e), s.zF, s.nF, s.zav, fun b hb => ?_, ?_⟩
  · rw [q, s.zav x hx] at e
    cases e
  · by_cases q : b = x
    · rw [q]
      exact lx
    · have l := s.live b hb
      cases e : H b with
      | none => exact absurd e l
      | some u =>
        rw [k b u q e]
        intro z
        cases z
  · have nF := ne s.nF
    cases s.st with
    | none h => exact .none (k _ _ nF h)
    | par hv hF ha hL zL nL aL => exact .par hv (k _ _ nF hF) ha (k _ _ (ne aL) hL) zL nL aL
    | hou hv hF ha hL zL nL aL hu hb hG zG nG nGL aG hw => exact .hou hv (k _ _ nF hF) ha (k _ _ (ne aL) hL) zL nL aL hu hb (k _ _ (ne aG) hG) zG nG nGL aG hw
theorem Sto.same (s : Sto mk Z H F av st) (k : Same H H') : Sto mk Z H' F av st := by
  refine ⟨s.zh.trans k, s.zF, s.nF, s.zav, fun b hb => ?_, ?_⟩
  · have l := s.live b hb
    cases e : H b with
    | none => exact absurd e l
    | some u =>
      rw [k b u e]
      intro z
      cases z
  · cases s.st with
    | none h => exact .none (k _ _ h)
    | par hv hF ha hL zL nL aL => exact .par hv (k _ _ hF) ha (k _ _ hL) zL nL aL
    | hou hv hF ha hL zL nL aL hu hb hG zG nG nGL aG hw => exact .hou hv (k _ _ hF) ha (k _ _ hL) zL nL aL hu hb (k _ _ hG) zG nG nGL aG hw
/-- a new thing is frozen -/
theorem Sto.grow (s : Sto mk Z H F av st) {p : Addr} {o : HO} (n : H p = none) (k : Same H H') (hp : H' p = some o) : Sto mk (upd Z p o) H' F av st := by
  have t := s.same k
  have zn : Same Z (upd Z p o) := fun b u e => by
    rw [upd_ne (fun q => ?_)]
    · exact e
    · rw [q] at e
      rw [s.zh p u e] at n
      cases n
  have np := s.new n
  have nz : ∀ {b : Addr} {u : HO}, H b = some u → Z b = none → upd Z p o b = none := fun e z => by
    rw [upd_ne (ne_of_none e n)]
    exact z
  refine ⟨fun b u e => ?_, ?_, s.nF, fun x hx => ?_, t.live, ?_⟩
  · by_cases q : b = p
    · subst q
      rw [upd_same] at e
      rw [hp, e]
    · rw [upd_ne q] at e
      exact t.zh b u e
  · rw [upd_ne (fun (q : F = p) => np (q ▸ List.mem_cons_self))]
    exact s.zF
  · rw [upd_ne (fun (q : x = p) => np (List.mem_cons_of_mem _ (q ▸ hx)))]
    exact s.zav x hx
  · cases s.st with
    | none h => exact .none (k _ _ h)
    | par hv hF ha hL zL nL aL => exact .par (hv.mono (ParAt.mono zn)) (k _ _ hF) (zn _ _ ha) (k _ _ hL) (nz hL zL) nL aL
    | hou hv hF ha hL zL nL aL hu hb hG zG nG nGL aG hw => exact .hou (hv.mono (ParAt.mono zn)) (k _ _ hF) (zn _ _ ha) (k _ _ hL) (nz hL zL) nL aL (hu.mono (HouseAt.mono zn)) (zn _ _ hb) (k _ _ hG) (nz hG zG) nG nGL aG (hw.mono (HeldAt.mono zn))
/-- one more place to avoid: one that is new -/
theorem Sto.avoid (s : Sto mk Z H F av st) {p : Addr} (n : H p = none) (k : Same H H') (l : H' p ≠ none) : Sto mk Z H' F (p :: av) st := by
  have t := s.same k
  have np := s.new n
  have ok : ∀ {b : Addr} {u : HO}, H b = some u → b ∉ av → b ∉ p :: av := fun e m q => by
    rcases List.mem_cons.mp q with q | q
    · exact ne_of_none e n q
    · exact m q
  have hF : ∃ fs, H F = some (.lst fs) := by
    obtain ⟨fs, h, _⟩ := s.flen
    exact ⟨fs, h⟩
  obtain ⟨fs, hFF⟩ := hF
  refine ⟨t.zh, s.zF, ok hFF s.nF, fun x hx => ?_, fun x hx => ?_, ?_⟩
  · rcases List.mem_cons.mp hx with q | q
    · rw [q]
      exact s.zh.free n
    · exact s.zav x q
  · rcases List.mem_cons.mp hx with q | q
    · rw [q]
      exact l
    · exact t.live x q
  · cases s.st with
    | none h => exact .none (k _ _ h)
    | par hv hF ha hL zL nL aL => exact .par hv (k _ _ hF) ha (k _ _ hL) zL nL (ok hL aL)
    | hou hv hF ha hL zL nL aL hu hb hG zG nG nGL aG hw => exact .hou hv (k _ _ hF) ha (k _ _ hL) zL nL (ok hL aL) hu hb (k _ _ hG) zG nG nGL (ok hG aG) hw
theorem Sto.drop {p : Addr} (s : Sto mk Z H F (p :: av) st) : Sto mk Z H F av st := by
  have ok : ∀ {b : Addr}, b ∉ p :: av → b ∉ av := fun m q => m (List.mem_cons_of_mem _ q)
  refine ⟨s.zh, s.zF, ok s.nF, fun x hx => s.zav x (List.mem_cons_of_mem _ hx), fun x hx => s.live x (List.mem_cons_of_mem _ hx), ?_⟩
  cases s.st with
  | none h => exact .none h
  | par hv hF ha hL zL nL aL => exact .par hv hF ha hL zL nL (ok aL)
  | hou hv hF ha hL zL nL aL hu hb hG zG nG nGL aG hw => exact .hou hv hF ha hL zL nL (ok aL) hu hb hG zG nG nGL (ok aG) hw
theorem live_x {x : Addr} (k : SameX x H H') (lx : H' x ≠ none) {b : Addr} (l : H b ≠ none) : H' b ≠ none := by
  by_cases q : b = x
  · rw [q]
    exact lx
  · cases e : H b with
    | none => exact absurd e l
    | some u =>
      rw [k b u q e]
      intro z
      cases z
theorem some_ne {o : Option HO} {u : HO} (h : o = some u) : o ≠ none := by
  rw [h]
  intro z
  cases z
/-- all but what stands at xs is as it was -/
def SameXs (xs : List Addr) (H H' : Hp) : Prop := ∀ b u, b ∉ xs → H b = some u → H' b = some u
theorem SameX.toXs {x : Addr} {xs : List Addr} {H H' : Hp} (s : SameX x H H') (m : x ∈ xs) : SameXs xs H H' := fun b u n e => s b u (fun q => n (q ▸ m)) e
theorem Same.toXs {xs : List Addr} {H H' : Hp} (s : Same H H') : SameXs xs H H' := fun b u _ e => s b u e
theorem SameXs.trans {xs : List Addr} {H H1 H2 : Hp} (a : SameXs xs H H1) (b : SameXs xs H1 H2) : SameXs xs H H2 := fun c o n h => b c o n (a c o n h)
theorem nin {x y : Addr} {xs : List Addr} (h : x ≠ y) (n : x ∉ xs) : x ∉ y :: xs := fun m => by
  rcases List.mem_cons.mp m with m | m
  · exact h m
  · exact n m
/-- .. a parish more -/
theorem Sto.addP (s : Sto mk Z H F av st) : ∃ fs, H F = some (.lst fs) ∧ fs.length = st.all.length ∧ ∀ (n : Str) (L' a' : Addr) (H' : Hp), H L' = none → H a' = none → a' ≠ L' → SameXs (F :: av) H H' → (∀ x ∈ av, H' x ≠ none) → H' L' = some (.lst []) → H' a' = some (mk [.str n, .ref L']) →
    H' F = some (.lst (fs ++ [.ref a'])) → ∃ Z', Same Z Z' ∧ Sto mk Z' H' F av (st.addP n) := by
  obtain ⟨fs, hF, hv⟩ := s.co
  refine ⟨fs, hF, hv.length, fun n L' a' H' nL na ne k lv hL ha hF' => ?_⟩
  have mL := s.new nL
  have ma := s.new na
  have s1 : Same (hide H (F :: av)) (hide H' (L' :: F :: av)) := fun b u e => by
    obtain ⟨m, e⟩ := hide_some e
    rw [hide_of]
    · exact k b u m e
    · intro q
      rcases List.mem_cons.mp q with q | q
      · exact ne_of_none e nL q
      · exact m q
  refine ⟨hide H' (L' :: F :: av), s.ss.trans s1, hide_same _ _, hide_in (by simp), s.nF, fun x hx => hide_in (by simp [hx]), lv, ?_⟩
  refine .par (vs := fs) (a := a') (L := L') (hv.mono (ParAt.mono s1)) hF' ?_ hL (hide_in (by simp)) (fun q => mL (q ▸ List.mem_cons_self)) (fun q => mL (List.mem_cons_of_mem _ q))
  rw [hide_of]
  · exact ha
  · intro q
    rcases List.mem_cons.mp q with q | q
    · exact ne q
    · exact ma q
/-- .. a house more -/
theorem Sto.addH (s : Sto mk Z H F av st) {c : Cur} (hc : st.cur = some c) : ∃ fs a L us, H F = some (.lst (fs ++ [.ref a])) ∧ H a = some (mk [.str c.pn, .ref L]) ∧ H L = some (.lst us) ∧ L ∉ av ∧ L ≠ F ∧ us.length = c.houses.length ∧
    ∀ (n : Str) (w : Int) (G' b' : Addr) (H' : Hp), H G' = none → H b' = none → b' ≠ G' → SameXs (L :: av) H H' → (∀ x ∈ av, H' x ≠ none) → H' G' = some (.lst []) → H' b' = some (mk [.str n, .int w, .ref G']) → H' L = some (.lst (us ++ [.ref b'])) → ∃ Z', Same Z Z' ∧ Sto mk Z' H' F av (st.addH n w) := by
  have ss := s.ss
  have key : ∀ {vs us : List V} {done : List Parish} {hs : List House} {a L : Addr} {pn : Str}, All2 (ParAt mk Z) vs done → H F = some (.lst (vs ++ [.ref a])) → Z a = some (mk [.str pn, .ref L]) → H L = some (.lst us) → Z L = none → L ≠ F → L ∉ av →
      All2 (HouseAt mk (hide H (L :: F :: av))) us hs → ∀ (n : Str) (w : Int) (G' b' : Addr) (H' : Hp), H G' = none → H b' = none → b' ≠ G' → SameXs (L :: av) H H' → (∀ x ∈ av, H' x ≠ none) → H' G' = some (.lst []) → H' b' = some (mk [.str n, .int w, .ref G']) → H' L = some (.lst (us ++ [.ref b'])) →
      ∃ Z', Same Z Z' ∧ Sto mk Z' H' F av ⟨done, some ⟨pn, hs, some (n, w, [])⟩⟩ := by
    intro vs us done hs a L pn hv hF ha hL zL nL aL hu n w G' b' H' nG nb ne k lv hG hb hL'
    have mG := s.new nG
    have mb := s.new nb
    have s1 : Same (hide H (L :: F :: av)) (hide H' (G' :: L :: F :: av)) := fun b u e => by
      obtain ⟨m, e⟩ := hide_some e
      rw [hide_of]
      · exact k b u (fun q => m (by rcases List.mem_cons.mp q with q | q <;> simp [q])) e
      · intro q
        rcases List.mem_cons.mp q with q | q
        · exact ne_of_none e nG q
        · exact m q
    have s0 : Same Z (hide H (L :: F :: av)) := fun b u e => by
      rw [hide_of]
      · exact s.zh b u e
      · intro q
        rcases List.mem_cons.mp q with q | q
        · rw [q, zL] at e
          cases e
        · obtain ⟨m, _⟩ := hide_some (ss b u e)
          exact m q
    have s2 := s0.trans s1
    refine ⟨hide H' (G' :: L :: F :: av), s2, hide_same _ _, hide_in (by simp), s.nF, fun x hx => hide_in (by simp [hx]), lv, ?_⟩
    refine .hou (us := us) (b := b') (G := G') (ws := []) (h := (n, w, [])) (hv.mono (ParAt.mono s2)) (k _ _ (nin (Ne.symm nL) s.nF) hF) (s2 _ _ ha) hL' (hide_in (by simp)) nL aL (hu.mono (HouseAt.mono s1)) ?_ hG (hide_in (by simp)) (fun q => mG (q ▸ List.mem_cons_self)) (Ne.symm (ne_of_none hL nG))
      (fun q => mG (List.mem_cons_of_mem _ q)) True.intro
    rw [hide_of]
    · exact hb
    · intro q
      rcases List.mem_cons.mp q with q | q
      · exact ne q
      · rcases List.mem_cons.mp q with q | q
        · exact ne_of_none hL nb q.symm
        · exact mb q
  cases s.st with
  | none h => cases hc
  | par hv hF ha hL zL nL aL =>
    cases hc
    exact ⟨_, _, _, _, hF, s.zh _ _ ha, hL, aL, nL, rfl, key hv hF ha hL zL nL aL (hs := []) True.intro⟩
  | @hou vs us ws done hd a L b G pn h hv hF ha hL zL nL aL hu hb hG zG nG nGL aG hw =>
    cases hc
    refine ⟨_, _, _, _, hF, s.zh _ _ ha, hL, aL, nL, ?_, key (hs := hd ++ [h]) hv hF ha hL zL nL aL ?_⟩
    · rw [List.length_append, hu.length]
      show _ = (hd ++ [h]).length
      rw [List.length_append]
      rfl
    · have s0 : Same Z (hide H (L :: F :: av)) := fun b u e => by
        rw [hide_of]
        · exact s.zh b u e
        · intro q
          rcases List.mem_cons.mp q with q | q
          · rw [q, zL] at e
            cases e
          · obtain ⟨m, _⟩ := hide_some (ss b u e)
            exact m q
      refine (hu.mono (HouseAt.mono s0)).snoc ⟨_, _, _, rfl, s0 _ _ hb, ?_, hw.mono (HeldAt.mono s0)⟩
      rw [hide_of]
      · exact hG
      · intro q
        rcases List.mem_cons.mp q with q | q
        · exact nGL q
        · rcases List.mem_cons.mp q with q | q
          · exact nG q
          · exact aG q
/-- .. a holding more -/
theorem Sto.addG (s : Sto mk Z H F av st) {pn : Str} {hd : List House} {h : House} (hc : st.cur = some ⟨pn, hd, some h⟩) : ∃ fs a L us b G ws, H F = some (.lst (fs ++ [.ref a])) ∧ H a = some (mk [.str pn, .ref L]) ∧ H L = some (.lst (us ++ [.ref b])) ∧ us.length = hd.length ∧
    H b = some (mk [.str h.1, .int h.2.1, .ref G]) ∧ H G = some (.lst ws) ∧ G ∉ av ∧ G ≠ F ∧ All2 (HeldAt Z) ws h.2.2 ∧
    ∀ (g : Held) (t : Addr) (H' : Hp), H t = none → SameXs (G :: av) H H' → (∀ x ∈ av, H' x ≠ none) → H' t = some (.tup [.str g.1, .int g.2.1, .int g.2.2]) → H' G = some (.lst (ws ++ [.ref t])) → ∃ Z', Same Z Z' ∧ Sto mk Z' H' F av (st.addG g) := by
  have ss := s.ss
  obtain ⟨hst⟩ : ∃ _ : Unit, True := ⟨(), True.intro⟩
  cases e0 : st with
  | mk done cur =>
  rw [e0] at hc s
  cases s.st with
  | none h => cases hc
  | par hv hF ha hL zL nL aL => cases hc
  | @hou vs us ws done hd a L b G pn h hv hF ha hL zL nL aL hu hb hG zG nG nGL aG hw =>
    cases hc
    refine ⟨vs, a, L, us, b, G, ws, hF, s.zh _ _ ha, hL, hu.length, s.zh _ _ hb, hG, aG, nG, hw, fun g t H' nt k lv ht hG' => ?_⟩
    have mt := s.new nt
    have s2 : Same Z (hide H' (G :: L :: F :: av)) := fun b u e => by
      rw [hide_of]
      · refine k b u (nin (fun q => ?_) (fun q => ?_)) (s.zh b u e)
        · rw [q, zG] at e
          cases e
        · rw [s.zav b q] at e
          cases e
      · intro q
        rcases List.mem_cons.mp q with q | q
        · rw [q, zG] at e
          cases e
        · rcases List.mem_cons.mp q with q | q
          · rw [q, zL] at e
            cases e
          · obtain ⟨m, _⟩ := hide_some (s.ss b u e)
            exact m q
    refine ⟨hide H' (G :: L :: F :: av), s2, hide_same _ _, hide_in (by simp), s.nF, fun x hx => hide_in (by simp [hx]), lv, ?_⟩
    refine .hou (us := us) (b := b) (G := G) (h := (h.1, h.2.1, h.2.2 ++ [g])) (hv.mono (ParAt.mono s2)) (k _ _ (nin (Ne.symm nG) s.nF) hF) (s2 _ _ ha) (k _ _ (nin (Ne.symm nGL) aL) hL) (hide_in (by simp)) nL aL (hu.mono (HouseAt.mono s2)) (s2 _ _ hb) hG' (hide_in (by simp)) nG nGL aG
      ((hw.mono (HeldAt.mono s2)).snoc ⟨t, rfl, ?_⟩)
    rw [hide_of]
    · exact ht
    · intro q
      rcases List.mem_cons.mp q with q | q
      · exact ne_of_none hG nt q.symm
      · rcases List.mem_cons.mp q with q | q
        · exact ne_of_none hL nt q.symm
        · exact mt q
end Pr
end

section
set_option Elab.async false
set_option linter.all false
set_option maxRecDepth 100000
set_option maxHeartbeats 4000000
/-! Rolls: what takes a line. -/
namespace Pr
open PySem L2
theorem new_upd {H : Hp} {p q : Addr} {o : HO} (h : upd H p o q = none) : q ≠ p ∧ H q = none := by
  by_cases e : q = p
  · subst e
    rw [upd_same] at h
    cases h
  · rw [upd_ne e] at h
    exact ⟨e, h⟩
theorem Same.new {H : Hp} {p : Addr} {o : HO} (n : H p = none) : Same H (L2.upd H p o) := Same.upd (Same.refl H) n
theorem empty_len {α β : Type} {as : List α} {bs : List β} (h : as.length = bs.length) : as.isEmpty = bs.isEmpty := by
  cases as <;> cases bs <;> first | rfl | cases h
def RefZ (C : Addr) (Z : Hp) (E : XK) (n k : Int) : Prop := ∀ H' d, Same Z H' → H' d = some (.xd (xW n k)) → E (.ref C) (some d) H'
theorem RefZ.toX {C l : Addr} {Z H : Hp} {E : XK} {n k : Int} (r : RefZ C Z E n k) (s : Same Z H) (z : Z l = none) : RefX C l H E n k := fun H' d s' h => r H' d (fun b u e => s' b u (fun q => by rw [q, z] at e; cases e) (s b u e)) h
def rf (F P N : Addr) (w : Int) : List (Str × V) := [("found", V.ref F), ("parish_names", V.ref P), ("house_names", V.ref N), ("worth_told", V.int w)]
theorem rf_found (F P N : Addr) (w : Int) : (rf F P N w).lookup ("found" : Str) = some (V.ref F) := by
  unfold rf
  rw [lk_cons, if_pos rfl]
theorem rf_pn (F P N : Addr) (w : Int) : (rf F P N w).lookup ("parish_names" : Str) = some (V.ref P) := by
  unfold rf
  rw [lk_cons, if_neg (by decide +kernel), lk_cons, if_pos rfl]
theorem rf_hn (F P N : Addr) (w : Int) : (rf F P N w).lookup ("house_names" : Str) = some (V.ref N) := by
  unfold rf
  rw [lk_cons, if_neg (by decide +kernel), lk_cons, if_neg (by decide +kernel), lk_cons, if_pos rfl]
theorem rf_w (F P N : Addr) (w : Int) : (rf F P N w).lookup ("worth_told" : Str) = some (V.int w) := by
  unfold rf
  rw [lk_cons, if_neg (by decide +kernel), lk_cons, if_neg (by decide +kernel), lk_cons, if_neg (by decide +kernel), lk_cons, if_pos rfl]
theorem rf_no (F P N : Addr) (w : Int) {m : Str} (h1 : ¬ m = "found") (h2 : ¬ m = "parish_names") (h3 : ¬ m = "house_names") (h4 : ¬ m = "worth_told") : (rf F P N w).lookup m = none := by
  unfold rf
  rw [lk_cons, if_neg h1, lk_cons, if_neg h2, lk_cons, if_neg h3, lk_cons, if_neg h4]
  rfl
theorem rf_put (F P N : Addr) (w z : Int) : putF "worth_told" (.int z) (rf F P N w) = rf F P N z := by
  show (if ("found" : Str) = "worth_told" then _ else (("found" : Str), V.ref F) :: (if ("parish_names" : Str) = "worth_told" then _ else (("parish_names" : Str), V.ref P) :: (if ("house_names" : Str) = "worth_told" then _ else (("house_names" : Str), V.ref N) ::
    (if ("worth_told" : Str) = "worth_told" then [(("worth_told" : Str), V.int z)] else _)))) = _
  rw [if_neg (by decide +kernel), if_neg (by decide +kernel), if_neg (by decide +kernel), if_pos rfl]
  rfl
theorem rf1 (F : Addr) : putF "found" (.ref F) [] = ([("found", V.ref F)] : List (Str × V)) := rfl
theorem rf2 (F P : Addr) : putF "parish_names" (.ref P) ([("found", V.ref F)] : List (Str × V)) = ([("found", V.ref F), ("parish_names", V.ref P)] : List (Str × V)) := by
  show (if ("found" : Str) = "parish_names" then _ else (("found" : Str), V.ref F) :: [(("parish_names" : Str), V.ref P)]) = _
  rw [if_neg (by decide +kernel)]
theorem rf3 (F P N : Addr) : putF "house_names" (.ref N) ([("found", V.ref F), ("parish_names", V.ref P)] : List (Str × V)) = ([("found", V.ref F), ("parish_names", V.ref P), ("house_names", V.ref N)] : List (Str × V)) := by
  show (if ("found" : Str) = "house_names" then _ else (("found" : Str), V.ref F) :: (if ("parish_names" : Str) = "house_names" then _ else (("parish_names" : Str), V.ref P) :: [(("house_names" : Str), V.ref N)])) = _
  rw [if_neg (by decide +kernel), if_neg (by decide +kernel)]
theorem rf4 (F P N : Addr) : putF "worth_told" (.int 0) ([("found", V.ref F), ("parish_names", V.ref P), ("house_names", V.ref N)] : List (Str × V)) = rf F P N 0 := by
  show (if ("found" : Str) = "worth_told" then _ else (("found" : Str), V.ref F) :: (if ("parish_names" : Str) = "worth_told" then _ else (("parish_names" : Str), V.ref P) :: (if ("house_names" : Str) = "worth_told" then _ else (("house_names" : Str), V.ref N) :: [(("worth_told" : Str), V.int 0)]))) = _
  rw [if_neg (by decide +kernel), if_neg (by decide +kernel), if_neg (by decide +kernel)]
  rfl
/-- Rolls at r, apart from the places ls -/
def RAt (K : PySem.W.Frag) (Z H : Hp) (r : Addr) (ls : List Addr) (st : Rl) : Prop := ∃ dx F P N, H r = some (.ins (He.ga K "Rolls") dx (rf F P N st.worth)) ∧ H P = some (.lst (st.pnames.map V.str)) ∧ H N = some (.lst (st.hnames.map V.str)) ∧ P ≠ N ∧
  (∀ x ∈ ls, x ≠ r ∧ x ≠ P ∧ x ≠ N) ∧ Sto .tup Z H F (r :: P :: N :: ls) st
section
variable {P : Program} {w : World} {K : PySem.W.Frag} {mg : Str → Option Value} {base : Heap} {Z H H' : Hp} {r l : Addr} {ls : List Addr} {st : Rl}
theorem RAt.zh (R : RAt K Z H r ls st) : Same Z H := by
  obtain ⟨_, _, _, _, _, _, _, _, _, S⟩ := R
  exact S.zh
theorem RAt.zl (R : RAt K Z H r ls st) (h : l ∈ ls) : Z l = none := by
  obtain ⟨_, _, _, _, _, _, _, _, _, S⟩ := R
  exact S.zav l (by simp [h])
theorem RAt.other (R : RAt K Z H r ls st) (h : l ∈ ls) (k : SameX l H H') (lx : H' l ≠ none) : RAt K Z H' r ls st := by
  obtain ⟨dx, F, P, N, hr, hP, hN, nPN, nx, S⟩ := R
  obtain ⟨n1, n2, n3⟩ := nx l h
  exact ⟨dx, F, P, N, k _ _ (Ne.symm n1) hr, k _ _ (Ne.symm n2) hP, k _ _ (Ne.symm n3) hN, nPN, nx, S.other (by simp [h]) k lx⟩
theorem RAt.same (R : RAt K Z H r ls st) (k : Same H H') : RAt K Z H' r ls st := by
  obtain ⟨dx, F, P, N, hr, hP, hN, nPN, nx, S⟩ := R
  exact ⟨dx, F, P, N, k _ _ hr, k _ _ hP, k _ _ hN, nPN, nx, S.same k⟩
theorem RAt.grow (R : RAt K Z H r ls st) {p : Addr} {o : HO} (n : H p = none) (k : Same H H') (hp : H' p = some o) : RAt K (upd Z p o) H' r ls st := by
  obtain ⟨dx, F, P, N, hr, hP, hN, nPN, nx, S⟩ := R
  exact ⟨dx, F, P, N, k _ _ hr, k _ _ hP, k _ _ hN, nPN, nx, S.grow n k hp⟩
theorem RAt.drop (R : RAt K Z H r [l] st) : RAt K Z H r [] st := by
  obtain ⟨dx, F, P, N, hr, hP, hN, nPN, nx, S⟩ := R
  refine ⟨dx, F, P, N, hr, hP, hN, nPN, fun x hx => by simp at hx, S.zh, S.zF, fun m => S.nF (by simp at m ⊢; rcases m with m | m | m <;> simp [m]), fun x hx => S.zav x (by simp at hx ⊢; rcases hx with m | m | m <;> simp [m]), fun x hx => S.live x (by simp at hx ⊢; rcases hx with m | m | m <;> simp [m]), ?_⟩
  have ok : ∀ {b : Addr}, b ∉ [r, P, N, l] → b ∉ [r, P, N] := fun m q => m (by simp at q ⊢; rcases q with m | m | m <;> simp [m])
  cases S.st with
  | none h => exact .none h
  | par hv hF ha hL zL nL aL => exact .par hv hF ha hL zL nL (ok aL)
  | hou hv hF ha hL zL nL aL hu hb hG zG nG nGL aG hw => exact .hou hv hF ha hL zL nL (ok aL) hu hb hG zG nG nGL (ok aG) hw
theorem RAt.avoid (R : RAt K Z H r [] st) (n : H l = none) (k : Same H H') (lx : H' l ≠ none) : RAt K Z H' r [l] st := by
  obtain ⟨dx, F, P, N, hr, hP, hN, nPN, nx, S⟩ := R
  have S' := S.avoid n k lx
  have n1 : l ≠ r := (ne_of_none hr n).symm
  have n2 : l ≠ P := (ne_of_none hP n).symm
  have n3 : l ≠ N := (ne_of_none hN n).symm
  have mv : ∀ {b : Addr}, b ∈ [r, P, N, l] → b ∈ [l, r, P, N] := fun q => by
    simp at q ⊢
    rcases q with m | m | m | m <;> simp [m]
  refine ⟨dx, F, P, N, k _ _ hr, k _ _ hP, k _ _ hN, nPN, fun x hx => by rw [List.mem_singleton] at hx; subst hx; exact ⟨n1, n2, n3⟩, S'.zh, S'.zF, fun m => S'.nF (mv m), fun x hx => S'.zav x (mv hx), fun x hx => S'.live x (mv hx), ?_⟩
  have ok : ∀ {b : Addr}, b ∉ [l, r, P, N] → b ∉ [r, P, N, l] := fun m q => m (mv q)
  cases S'.st with
  | none h => exact .none h
  | par hv hF ha hL zL nL aL => exact .par hv hF ha hL zL nL (ok aL)
  | hou hv hF ha hL zL nL aL hu hb hG zG nG nGL aG hw => exact .hou hv hF ha hL zL nL (ok aL) hu hb hG zG nG nGL (ok aG) hw
/-- Rolls() -/
def spRolls (K : PySem.W.Frag) : Sp := fun vs H Q _ => ∃ (r dx : Addr) (Z : Hp), vs = [.ref r] ∧ H r = some (.ins (He.ga K "Rolls") dx []) ∧ Same Z H ∧ Z r = none ∧ ∀ H', RAt K Z H' r [] Rl.empty → Q .non H'
theorem ok_r_init (T : Txt K mg) : FnOk P w K mg base L2.CX0 1 (a_r_init K) (fdOf K (a_r_init K)) P_r_init (spRolls K) := by
  refine T.F_r_init.ok sc_r_init (fun vs H Q E h => ?_) (fun cdv A outer s H vs Q E hr h => ?_)
  · obtain ⟨r, dx, Z, rfl, _⟩ := h
    rfl
  · obtain ⟨r, dx, Z, rfl, h0, zh, zr, k⟩ := h
    refine ⟨_, pss_cons (ps_fld (pv 0) (pe_lst pa_nil) rfl) (pss_cons (ps_fld (pv 0) (pe_lst pa_nil) rfl) (pss_cons (ps_fld (pv 0) (pe_lst pa_nil) rfl) (pss_one (ps_fld (pv 0) pe_int rfl)))), ?_⟩
    refine ⟨Nat.zero_le _, fun F nF => ?_⟩
    refine ⟨_, rfl, r, _, dx, _, rfl, (Same.new nF) _ _ h0, T.c_Rolls, T.na_Rolls_found, (by show 0 < 1000; decide), ?_⟩
    rw [rf1]
    refine ⟨Nat.zero_le _, fun P nP => ?_⟩
    obtain ⟨p1, nP⟩ := new_upd nP
    obtain ⟨p2, nP⟩ := new_upd nP
    refine ⟨_, rfl, r, _, dx, _, rfl, (by rw [upd_ne (Ne.symm p1)]; exact upd_same), T.c_Rolls, T.na_Rolls_parish_names, (by show 1 < 1000; decide), ?_⟩
    rw [rf2]
    refine ⟨Nat.zero_le _, fun N nN => ?_⟩
    obtain ⟨q1, nN⟩ := new_upd nN
    obtain ⟨q2, nN⟩ := new_upd nN
    obtain ⟨_, nN⟩ := new_upd nN
    obtain ⟨q3, nN⟩ := new_upd nN
    refine ⟨_, rfl, r, _, dx, _, rfl, (by rw [upd_ne (Ne.symm q1)]; exact upd_same), T.c_Rolls, T.na_Rolls_house_names, (by show 2 < 1000; decide), ?_⟩
    rw [rf3]
    refine ⟨_, rfl, r, _, dx, _, rfl, upd_same, T.c_Rolls, T.na_Rolls_worth_told, (by show 3 < 1000; decide), ?_⟩
    rw [rf4]
    have rF : F ≠ r := (ne_of_none h0 nF).symm
    refine k _ ⟨dx, F, P, N, upd_same, ?_, ?_, fun z => q2 z.symm, fun x hx => by simp at hx, fun b u e => ?_, zh.free nF, ?_, fun x hx => ?_, fun x hx => ?_, .none ?_⟩
    · rw [upd_ne p1, upd_ne p1, upd_ne (Ne.symm q2), upd_ne p1, upd_same]
      rfl
    · rw [upd_ne q1, upd_ne q1, upd_same]
      rfl
    · have nr : b ≠ r := fun q => by rw [q, zr] at e; cases e
      have e' := zh _ _ e
      rw [upd_ne nr, upd_ne nr, upd_ne (ne_of_none e' nN), upd_ne nr, upd_ne (ne_of_none e' nP), upd_ne nr, upd_ne (ne_of_none e' nF)]
      exact e'
    · intro m
      simp at m
      rcases m with m | m | m
      · exact rF m
      · exact p2 m.symm
      · exact q3 m.symm
    · simp at hx
      rcases hx with m | m | m
      · rw [m]; exact zr
      · rw [m]; exact zh.free nP
      · rw [m]; exact zh.free nN
    · simp at hx
      rcases hx with m | m | m
      · rw [m, upd_same]; exact fun z => by cases z
      · rw [m, upd_ne p1, upd_ne p1, upd_ne (Ne.symm q2), upd_ne p1, upd_same]; exact fun z => by cases z
      · rw [m, upd_ne q1, upd_ne q1, upd_same]; exact fun z => by cases z
    · rw [upd_ne rF, upd_ne rF, upd_ne (Ne.symm q3), upd_ne rF, upd_ne (Ne.symm p2), upd_ne rF, upd_same]
/-- what can stand next -/
def fwP (st : Rl) : List Str := if st.canP = true then ["parish"] else []
def fwH (st : Rl) : List Str := if st.canH = true then ["house"] else []
def fwG (st : Rl) : List Str := if st.canG = true then ["held"] else []
def fw (st : Rl) : List Str := fwP st ++ fwH st ++ fwG st
def spFirst (K : PySem.W.Frag) : Sp := fun vs H Q _ => ∃ (r : Addr) (ls : List Addr) (Z : Hp) (st : Rl), vs = [.ref r] ∧ RAt K Z H r ls st ∧ ∀ p H', Same H H' → H' p = some (.lst ((fw st).map V.str)) → Q (.ref p) H'
theorem ok_r_first_words (T : Txt K mg) : FnOk P w K mg base L2.CX0 1 (a_r_first_words K) (fdOf K (a_r_first_words K)) P_r_first_words (spFirst K) := by
  obtain ⟨t1, h1⟩ := T.i_MOST_PARISHES
  obtain ⟨t2, h2⟩ := T.i_MOST_IN_PARISH
  obtain ⟨t3, h3⟩ := T.i_MOST_HOUSES
  obtain ⟨t4, h4⟩ := T.i_MOST_HOLDINGS
  refine T.F_r_first_words.ok sc_r_first_words (fun vs H Q E h => ?_) (fun cdv A outer s H vs Q E hr h => ?_)
  · obtain ⟨r, ls, Z, st, rfl, _⟩ := h
    rfl
  · obtain ⟨r, ls, Z, st, rfl, ⟨dx, F, P, N, hrr, hP, hN, nPN, nx, S⟩, k⟩ := h
    have hu := hu_of hr
    refine ⟨_, pss_cons (ps_if (pt_cmpR (op_eqN (Nat.lt_of_succ_lt hu)) (pe_fld (pv 0) rfl) (pe_lst pa_nil) (nomark _)) (pss_one (ps_ret (pe_lst (pa_cons pe_str pa_nil)))) pss_nil)
      (pss_cons (ps_set (i := 1) sc_r_first_words.nd rfl (Or.inl rfl) (pe_ix ix_tup (pe_ix ix_list (pe_fld (pv 0) rfl) (pe_un un_neg pe_int) (fun _ _ => rfl)) pe_int (fun _ _ => rfl)))
      (pss_cons (ps_set (i := 2) sc_r_first_words.nd rfl (Or.inl rfl) (pe_cut (pe_ifExp (PW.pt (pw_and (pt_cmpR (op_neN (Nat.lt_of_succ_lt hu)) (pv 1) (pe_lst pa_nil) (nomark _))
          (pw_and1 (pt_cmpR op_lt (pe_callB call_len_seq (by rfl) T.f_len PySem.boot_len (pa_cons (pe_fld (pv 0) rfl) pa_nil)) (pe_glob (v := .int 8) (by rfl) h1 ⟨t1, rfl⟩) (nomark _))))) (pe_lst (pa_cons pe_str pa_nil)) (pe_lst pa_nil))))
      (pss_cons (ps_cut (ps_if (PW.pt (pw_and (pt_cmpR op_lt (pe_callB call_len_seq (by rfl) T.f_len PySem.boot_len (pa_cons (pv 1) pa_nil)) (pe_glob (v := .int 20) (by rfl) h2 ⟨t2, rfl⟩) (nomark _))
          (pw_and1 (pt_cmpR op_lt (pe_callB call_len_seq (by rfl) T.f_len PySem.boot_len (pa_cons (pe_fld (pv 0) rfl) pa_nil)) (pe_glob (v := .int 60) (by rfl) h3 ⟨t3, rfl⟩) (nomark _)))))
        (pss_one (ps_expr (pe_bm PySem.F.plainAttrs_list PySem.F.slot_list_append PySem.F.type_list_append mt_append (pv 2) (pa_cons pe_str pa_nil)))) pss_nil))
      (pss_cons (ps_if (PW.pt (pw_and (pt_cmpR (op_neN (Nat.lt_of_succ_lt hu)) (pv 1) (pe_lst pa_nil) (nomark _))
          (pw_and1 (pt_cmpR op_lt (pe_callB call_len_seq (by rfl) T.f_len PySem.boot_len (pa_cons (pe_ix ix_tup (pe_ix ix_list (pv 1) (pe_un un_neg pe_int) (fun _ _ => rfl)) pe_int (fun _ _ => rfl)) pa_nil)) (pe_glob (v := .int 12) (by rfl) h4 ⟨t4, rfl⟩) (nomark _)))))
        (pss_one (ps_expr (pe_bm PySem.F.plainAttrs_list PySem.F.slot_list_append PySem.F.type_list_append mt_append (pv 2) (pa_cons pe_str pa_nil)))) pss_nil)
      (pss_one (ps_ret (pv 2))))))), ?_⟩
    cases hc : st.cur with
    | none =>
      have hF : H F = some (.lst []) := by
        cases S.st with
        | none h => exact h
        | par => cases hc
        | hou => cases hc
      have ef : fw st = (["parish"] : List Str) := by
        unfold fw fwP fwH fwG Rl.canP Rl.canH Rl.canG
        rw [hc]
        rfl
      refine ⟨_, rfl, r, _, dx, _, _, rfl, hrr, T.c_Rolls, T.na_Rolls_found, rf_found _ _ _ _, Nat.zero_le _, fun e ne => ?_⟩
      refine ⟨F, e, [], rfl, rfl, SqL.of ((Same.new ne) _ _ hF), SqL.of upd_same, _, rfl, iteT ?_⟩
      refine ⟨Nat.le_of_lt (by decide), fun p np => ?_⟩
      refine k p _ ((Same.new ne).trans (Same.new np)) ?_
      rw [ef]
      exact upd_same
    | some c =>
      obtain ⟨fs, a, L, us, hF, ha, hL, _, _, elen, _⟩ := S.addH hc
      obtain ⟨fs', hF', flen⟩ := S.flen
      rw [hF] at hF'
      cases hF'
      have hw8 : 1 ≤ sizeLine := by decide
      refine ⟨_, rfl, r, _, dx, _, _, rfl, hrr, T.c_Rolls, T.na_Rolls_found, rf_found _ _ _ _, Nat.zero_le _, fun e ne => ?_⟩
      have s1 : Same H (upd H e (.lst [])) := Same.new ne
      refine ⟨F, e, _, rfl, rfl, SqL.of (s1 _ _ hF), SqL.of upd_same, _, rfl, ?_⟩
      rw [show (if false then !(fs ++ [V.ref a]).isEmpty else (fs ++ [V.ref a]).isEmpty) = false by simp]
      refine iteF ?_
      -- houses
      refine ⟨_, rfl, r, _, dx, _, _, rfl, s1 _ _ hrr, T.c_Rolls, T.na_Rolls_found, rf_found _ _ _ _, _, rfl, F, _, _, _, rfl, rfl, SqL.of (s1 _ _ hF), atI_last _ _, a, _, _, _, rfl, rfl, SqT.of (s1 _ _ ha), atI_nat (j := 1) rfl, ?_⟩
      -- words: a list at q that stands apart
      refine ⟨fun v H3 => ∃ q, v = .ref q ∧ Same H H3 ∧ H q = none ∧ H3 q = some (.lst ((fwP st).map V.str)), ?_, ?_⟩
      · refine ⟨_, rfl, Nat.zero_le _, fun e2 ne2 => ?_⟩
        have s2 := s1.trans (Same.new (o := .lst []) ne2)
        refine ⟨L, e2, us, rfl, rfl, SqL.of (s2 _ _ hL), SqL.of upd_same, _, rfl, ?_⟩
        rw [show (if true then !us.isEmpty else us.isEmpty) = !c.houses.isEmpty from congrArg (!·) (empty_len elen)]
        have ep : st.canP = (!c.houses.isEmpty && decide (st.all.length < 8)) := by unfold Rl.canP; rw [hc]
        refine iteBN (fun c1 => ?_) (fun c1 => ?_)
        · refine ⟨_, rfl, r, _, dx, _, _, rfl, s2 _ _ hrr, T.c_Rolls, T.na_Rolls_found, rf_found _ _ _ _, F, _, rfl, .inl (SqL.of (s2 _ _ hF)), _, _, rfl, rfl, _, rfl, iteD (fun c2 => ?_) (fun c2 => ?_)⟩
          · refine ⟨hw8, fun q nq => ⟨q, rfl, s2.trans (Same.new nq), s2.free nq, ?_⟩⟩
            rw [upd_same]
            unfold fwP
            rw [ep, c1, decide_eq_true (show st.all.length < 8 by rw [← flen]; omega)]
            rfl
          · refine ⟨Nat.zero_le _, fun q nq => ⟨q, rfl, s2.trans (Same.new nq), s2.free nq, ?_⟩⟩
            rw [upd_same]
            unfold fwP
            rw [ep, decide_eq_false (show ¬ st.all.length < 8 by rw [← flen]; omega), Bool.and_false]
            rfl
        · refine ⟨Nat.zero_le _, fun q nq => ⟨q, rfl, s2.trans (Same.new nq), s2.free nq, ?_⟩⟩
          rw [upd_same]
          unfold fwP
          rw [ep, c1]
          rfl
      · rintro v H3 ⟨q, rfl, s3, nq, hq⟩
        -- house
        refine ⟨fun σ H4 => σ = [some (.ref r), some (.ref L), some (.ref q)] ∧ SameX q H3 H4 ∧ H4 q = some (.lst ((fwP st ++ fwH st).map V.str)), ?_, ?_⟩
        · have eh : st.canH = (decide (c.houses.length < 20) && decide (st.hnames.length < 60)) := by unfold Rl.canH; rw [hc]
          refine ⟨_, rfl, L, _, rfl, .inl (SqL.of (s3 _ _ hL)), _, _, rfl, rfl, _, rfl, iteD (fun c1 => ?_) (fun c1 => ?_)⟩
          · refine ⟨_, rfl, r, _, dx, _, _, rfl, s3 _ _ hrr, T.c_Rolls, T.na_Rolls_house_names, rf_hn _ _ _ _, N, _, rfl, .inl (SqL.of (s3 _ _ hN)), _, _, rfl, rfl, _, rfl, iteD (fun c2 => ?_) (fun c2 => ?_)⟩
            · refine ⟨_, rfl, .inl ⟨rfl, _, SqL.of hq⟩, q, _, _, rfl, rfl, hq, (by rw [List.length_map]; unfold fwP; split <;> decide), ⟨rfl, SameX.upd q H3 _, ?_⟩⟩
              rw [upd_same]
              unfold fwH
              rw [eh, decide_eq_true (show c.houses.length < 20 by rw [← elen]; omega), decide_eq_true (show st.hnames.length < 60 by rw [List.length_map] at c2; omega), List.map_append]
              rfl
            · refine ⟨rfl, SameX.refl q H3, ?_⟩
              unfold fwH
              rw [eh, decide_eq_false (show ¬ st.hnames.length < 60 by rw [List.length_map] at c2; omega), Bool.and_false, if_neg Bool.false_ne_true, List.append_nil]
              exact hq
          · refine ⟨rfl, SameX.refl q H3, ?_⟩
            unfold fwH
            rw [eh, decide_eq_false (show ¬ c.houses.length < 20 by rw [← elen]; omega), Bool.false_and, if_neg Bool.false_ne_true, List.append_nil]
            exact hq
        · rintro σ H4 ⟨rfl, s4, hq4⟩
          have k4 : ∀ {b : Addr} {u : HO}, H b = some u → H4 b = some u := fun {b u} e => s4 b u (ne_of_none e nq) (s3 _ _ e)
          have fin : ∀ (H5 : Hp), SameX q H4 H5 → H5 q = some (.lst ((fw st).map V.str)) → Q (.ref q) H5 := fun H5 s5 hq5 => k q H5 (fun b u e => s5 b u (ne_of_none e nq) (k4 e)) hq5
          refine ⟨_, rfl, Nat.zero_le _, fun e3 ne3 => ?_⟩
          have s5 : Same H4 (upd H4 e3 (.lst [])) := Same.new ne3
          refine ⟨L, e3, us, rfl, rfl, SqL.of (s5 _ _ (k4 hL)), SqL.of upd_same, _, rfl, ?_⟩
          rw [if_pos rfl]
          cases S.st with
          | none => cases hc
          | @par vs done a' L' pn hv hF2 ha2 hL2 zL nL aL =>
            rw [hF] at hF2
            have e1 := (List.append_inj' (HO.lst.inj (Option.some.inj hF2)) rfl).2
            have e2 : a = a' := V.ref.inj (List.cons.inj e1).1
            subst e2
            rw [S.zh _ _ ha2] at ha
            have e3 := HO.tup.inj (Option.some.inj ha)
            have e4 : L' = L := V.ref.inj (List.cons.inj (List.cons.inj e3).2).1
            subst e4
            rw [hL2] at hL
            cases hL
            refine iteF ?_
            refine ⟨_, rfl, fin _ (Same.toX s5 q) ?_⟩
            have eg : fwG ⟨done, some ⟨pn, [], none⟩⟩ = [] := rfl
            unfold fw
            rw [eg, List.append_nil]
            exact s5 _ _ hq4
          | @hou vs us' ws done hd a' L' b G pn h hv hF2 ha2 hL2 zL nL aL hu hb hG zG nG nGL aG hw =>
            rw [hF] at hF2
            have e1 := (List.append_inj' (HO.lst.inj (Option.some.inj hF2)) rfl).2
            have e2 : a = a' := V.ref.inj (List.cons.inj e1).1
            subst e2
            rw [S.zh _ _ ha2] at ha
            have e3 := HO.tup.inj (Option.some.inj ha)
            have e4 : L' = L := V.ref.inj (List.cons.inj (List.cons.inj e3).2).1
            subst e4
            rw [hL2] at hL
            cases hL
            rw [show (!(us' ++ [V.ref b]).isEmpty) = true by simp]
            refine iteT ?_
            have eg : fwG ⟨done, some ⟨pn, hd, some h⟩⟩ = if decide (h.2.2.length < 12) = true then (["held"] : List Str) else [] := rfl
            refine ⟨_, rfl, _, rfl, L', _, _, _, rfl, rfl, SqL.of (s5 _ _ (k4 hL2)), atI_last _ _, b, _, _, _, rfl, rfl, SqT.of (s5 _ _ (k4 (S.zh _ _ hb))), atI_nat (j := 2) rfl, G, _, rfl, .inl (SqL.of (s5 _ _ (k4 hG))), _, _, rfl, rfl, _, rfl, iteD (fun c1 => ?_) (fun c1 => ?_)⟩
            · refine ⟨_, rfl, .inl ⟨rfl, _, SqL.of (s5 _ _ hq4)⟩, q, _, _, rfl, rfl, s5 _ _ hq4, (by rw [List.length_map, List.length_append]; unfold fwP fwH; split <;> split <;> decide), ?_⟩
              refine ⟨_, rfl, fin _ ((Same.toX s5 q).trans (SameX.upd q _ _)) ?_⟩
              rw [upd_same]
              unfold fw
              rw [eg, if_pos (decide_eq_true (show h.2.2.length < 12 by rw [← hw.length]; omega))]
              simp only [List.map_append, List.map_cons, List.map_nil]
            · refine ⟨_, rfl, fin _ (Same.toX s5 q) ?_⟩
              unfold fw
              rw [eg, if_neg (by rw [decide_eq_false (show ¬ h.2.2.length < 12 by rw [← hw.length]; omega)]; exact Bool.false_ne_true), List.append_nil]
              exact s5 _ _ hq4
end
end Pr
end

section
set_option Elab.async false
set_option linter.all false
set_option maxRecDepth 100000
set_option maxHeartbeats 4000000
/-! Rolls: the takers. -/
namespace Pr
open PySem L2
section
variable {P : Program} {w : World} {K : PySem.W.Frag} {mg : Str → Option Value} {base : Heap} {Z H H' : Hp} {r l : Addr} {ls : List Addr} {st : Rl}
theorem RefZ.le {C : Addr} {Z Z' : Hp} {E : XK} {n k : Int} (r : RefZ C Z E n k) (s : Same Z Z') : RefZ C Z' E n k := fun H' d s' h => r H' d (s.trans s') h
theorem mapS (ns : List Str) (n : Str) : ns.map V.str ++ [V.str n] = (ns ++ [n]).map V.str := by
  rw [List.map_append]
  rfl
theorem pn_len (st : Rl) : st.pnames.length = st.all.length := by
  unfold Rl.pnames
  rw [List.length_map]
theorem sz {n : Nat} (h : n ≤ 100) : n < sizeLine := Nat.lt_of_le_of_lt h (by decide)
theorem wf_addP {st : Rl} {n : Str} (W : st.Wf) (c : st.canP = true) (h : isNm n = true ∧ n ∉ st.pnames) : (st.addP n).Wf := by
  refine wf_takeP (ws := ["", n]) W c ?_
  unfold takeP
  rw [if_pos (show isNm (wd ["", n] 1) = true ∧ wd ["", n] 1 ∉ st.pnames from h), if_pos (show ([("" : Str), n] : List Str).length ≤ 2 from Nat.le_refl 2)]
  rfl
theorem wf_addH {st : Rl} {n z : Str} {w : Int} (W : st.Wf) (c : st.canH = true) (h : isNm n = true ∧ n ∉ st.hnames) (hz : numIn z 0 9999 = some w) : (st.addH n w).Wf := by
  refine wf_takeH (ws := ["", n, z]) W c ?_
  unfold takeH
  rw [if_pos (show isNm (wd ["", n, z] 1) = true ∧ wd ["", n, z] 1 ∉ st.hnames from h)]
  have e : numIn (wd ["", n, z] 2) 0 9999 = some w := hz
  rw [e]
  exact if_pos (Nat.le_refl 3)
theorem wf_addG {st : Rl} {n y z : Str} {f t : Int} (W : st.Wf) (c : st.canG = true) (h : isNm n = true) (hy : numIn y st.least 360 = some f) (hz : numIn z f 360 = some t) : (st.addG (n, f, t)).Wf := by
  refine wf_takeG (ws := ["", n, y, z]) W c ?_
  unfold takeG
  rw [if_pos (show isNm (wd ["", n, y, z] 1) = true from h)]
  have e : numIn (wd ["", n, y, z] 2) st.least 360 = some f := hy
  have e2 : numIn (wd ["", n, y, z] 3) f 360 = some t := hz
  rw [e]
  show (match numIn (wd ["", n, y, z] 3) f 360 with | none => _ | some t => _) = _
  rw [e2]
  exact if_pos (Nat.le_refl 4)
/-- the line's place k, all else -/
structure Tk (K : PySem.W.Frag) (Z H : Hp) (r l dx wl : Addr) (n : Int) (ws : List Str) (k : Nat) (st : Rl) : Prop where
  ra : RAt K Z H r [l] st
  la : LnAt K H l dx wl n k
  wz : Z wl = some (.lst (ws.map V.str))
  sh : short ws
  wf : st.Wf
theorem Tk.step {dx wl : Addr} {n : Int} {ws : List Str} {k j : Nat} (t : Tk K Z H r l dx wl n ws k st) (s : SameX l H H') (h : LnAt K H' l dx wl n j) : Tk K Z H' r l dx wl n ws j st :=
  ⟨t.ra.other (List.mem_singleton.mpr rfl) s (some_ne h), h, t.wz, t.sh, t.wf⟩
theorem Tk.hw {dx wl : Addr} {n : Int} {ws : List Str} {k : Nat} (t : Tk K Z H r l dx wl n ws k st) : H wl = some (.lst (ws.map V.str)) := t.ra.zh _ _ t.wz
theorem Tk.toX {dx wl C : Addr} {n i j : Int} {ws : List Str} {k : Nat} {E : XK} (t : Tk K Z H r l dx wl n ws k st) (e : RefZ C Z E i j) : RefX C l H E i j := e.toX t.ra.zh (t.ra.zl (List.mem_singleton.mpr rfl))
/-- the line stands elsewhere than what a taker changes -/
theorem ln_keep {dx wl : Addr} {n : Int} {k : Nat} (la : LnAt K H l dx wl n k) {p : Addr} {xs : List V} {o : HO} (hp : H p = some (.lst xs)) : LnAt K (upd H p o) l dx wl n k := by
  unfold LnAt at la ⊢
  rw [upd_ne (ne_of la hp (by intro z; cases z))]
  exact la
def spTakeP (K : PySem.W.Frag) : Sp := fun vs H Q E => ∃ (r l dx wl : Addr) (Z : Hp) (n : Int) (ws : List Str) (st : Rl), vs = [.ref r, .ref l] ∧ Tk K Z H r l dx wl n ws 1 st ∧ st.canP = true ∧ (¬ (isNm (wd ws 1) = true ∧ wd ws 1 ∉ st.pnames) → RefZ (He.ga K "BadText") Z E n 2) ∧
  (isNm (wd ws 1) = true ∧ wd ws 1 ∉ st.pnames → ∀ Z' H', Same Z Z' → Tk K Z' H' r l dx wl n ws 2 (st.addP (wd ws 1)) → Q .non H')
theorem ok_r_take_parish (T : Txt K mg) : FnOk P w K mg base (L2.CX P w) 6 (a_r_take_parish K) (fdOf K (a_r_take_parish K)) P_r_take_parish (spTakeP K) := by
  refine T.F_r_take_parish.ok sc_r_take_parish (fun vs H Q E h => ?_) (fun cdv A outer s H vs Q E hr h => ?_)
  · obtain ⟨r, l, dx, wl, Z, n, ws, st, rfl, _⟩ := h
    rfl
  · obtain ⟨r, l, dx, wl, Z, n, ws, st, rfl, t, hcan, e, q⟩ := h
    obtain ⟨dxr, F, Pn, Nn, hrr, hP, hN, nPN, nx, S⟩ := t.ra
    obtain ⟨nr, nP, nN⟩ := nx l (List.mem_singleton.mpr rfl)
    refine ⟨_, pss_cons (ps_set (i := 2) sc_r_take_parish.nd rfl (Or.inl rfl) (pe_meth (pv 1) T.c_Line T.m_Line_name_unlike (ok_n_name_unlike T) hr T.b_n_name_unlike .nil (passX (takes_of rfl rfl rfl rfl)) (pa_cons (pe_fld (pv 0) rfl) pa_nil)))
      (pss_cons (ps_expr (pe_bm PySem.F.plainAttrs_list PySem.F.slot_list_append PySem.F.type_list_append mt_append (pe_fld (pv 0) rfl) (pa_cons (pv 2) pa_nil)))
      (pss_one (ps_expr (pe_bm PySem.F.plainAttrs_list PySem.F.slot_list_append PySem.F.type_list_append mt_append (pe_fld (pv 0) rfl) (pa_cons (pe_tup (pa_cons (pv 2) (pa_cons (pe_lst pa_nil) pa_nil))) pa_nil))))), ?_⟩
    refine ⟨_, rfl, l, dx, _, rfl, t.la, lnf_no _ _ _ (by decide +kernel) (by decide +kernel) (by decide +kernel), _, rfl, r, _, dxr, _, _, rfl, hrr, T.c_Rolls, T.na_Rolls_parish_names, rf_pn _ _ _ _, ?_⟩
    refine ⟨l, dx, wl, Pn, n, 1, ws, st.pnames, rfl, t.la, t.hw, hP, t.sh, fun c => t.toX (e c), fun c H1 s1 la1 => ?_⟩
    have S1 := S.other (by simp) s1 (some_ne la1)
    have hr1 := s1 _ _ (Ne.symm nr) hrr
    have hP1 := s1 _ _ (Ne.symm nP) hP
    have hN1 := s1 _ _ (Ne.symm nN) hN
    refine ⟨_, rfl, r, _, dxr, _, _, rfl, hr1, T.c_Rolls, T.na_Rolls_parish_names, rf_pn _ _ _ _, .inl ⟨rfl, _, SqL.of hP1⟩, _, rfl, Pn, _, _, rfl, rfl, hP1, sz (by rw [List.length_map, pn_len]; exact Nat.le_trans t.wf.few (by decide)), ?_⟩
    have rP : r ≠ Pn := ne_of hr1 hP1 (by intro z; cases z)
    have S2 := S1.other (x := Pn) (by simp) (SameX.upd Pn H1 (.lst (st.pnames.map V.str ++ [V.str (wd ws 1)]))) (by rw [upd_same]; intro z; cases z)
    obtain ⟨fs, hF, fl, key⟩ := S2.addP
    have hr2 := (upd_ne (H := H1) (o := .lst (st.pnames.map V.str ++ [V.str (wd ws 1)])) rP).trans hr1
    refine ⟨_, rfl, r, _, dxr, _, _, rfl, hr2, T.c_Rolls, T.na_Rolls_found, rf_found _ _ _ _, .inl ⟨rfl, _, SqL.of hF⟩, ?_⟩
    refine ⟨_, rfl, Nat.zero_le _, fun L' nL => ⟨(by show 2 ≤ sizeLine; decide), fun a' na => ?_⟩⟩
    obtain ⟨naL, na⟩ := new_upd na
    have s3 := (Same.new (o := .lst []) nL).trans (Same.new (o := .tup [.str (wd ws 1), .ref L']) (by rw [upd_ne naL]; exact na))
    have hF3 := s3 _ _ hF
    have FL : L' ≠ F := (ne_of_none hF nL).symm
    have Fa : a' ≠ F := (ne_of_none hF na).symm
    refine ⟨F, _, _, rfl, rfl, hF3, sz (by rw [fl]; exact Nat.le_trans t.wf.few (by decide)), ?_⟩
    obtain ⟨Z', zz, S3⟩ := key (wd ws 1) L' a' (upd (upd (upd (upd H1 Pn (.lst (st.pnames.map V.str ++ [V.str (wd ws 1)]))) L' (.lst [])) a' (.tup [.str (wd ws 1), .ref L'])) F (.lst (fs ++ [.ref a']))) nL na naL ((Same.toXs s3).trans ((SameX.upd F _ _).toXs List.mem_cons_self)) (fun x hx => live_x (SameX.upd F _ _) (by rw [upd_same]; intro z; cases z) (live_x (Same.toX s3 F) (some_ne hF3) (S2.live x hx)))
      (by rw [upd_ne FL, upd_ne (Ne.symm naL), upd_same]) (by rw [upd_ne Fa, upd_same]) upd_same
    have k3 : ∀ {b : Addr} {u : HO}, b ≠ F → b ≠ Pn → H1 b = some u → upd (upd (upd (upd H1 Pn (.lst (st.pnames.map V.str ++ [V.str (wd ws 1)]))) L' (.lst [])) a' (.tup [.str (wd ws 1), .ref L'])) F (.lst (fs ++ [.ref a'])) b = some u := fun {b u} n1 n2 e => (upd_ne n1).trans (s3 b u ((upd_ne n2).trans e))
    refine q c Z' _ zz ⟨⟨dxr, F, Pn, Nn, ?_, ?_, ?_, nPN, nx, S3⟩, ?_, zz _ _ t.wz, t.sh, wf_addP t.wf hcan c⟩
    · rw [worth_addP]
      exact k3 (ne_of hr2 hF (by intro z; cases z)) rP hr1
    · rw [pnames_addP, ← mapS]
      exact (upd_ne (fun z => S2.nF (by simp [z]))).trans (s3 _ _ upd_same)
    · rw [hnames_addP]
      exact k3 (fun z => S2.nF (by simp [z])) (Ne.symm nPN) hN1
    · exact k3 (fun z => S2.nF (by simp [z])) nP la1
theorem fresh_back {xs : List Addr} {H H' : Hp} {p : Addr} (s : SameXs xs H H') (lv : ∀ x ∈ xs, H' x ≠ none) (n : H' p = none) : H p = none := by
  cases e : H p with
  | none => rfl
  | some u =>
    by_cases m : p ∈ xs
    · exact absurd n (lv p m)
    · rw [s p u m e] at n
      cases n
def spTakeH (K : PySem.W.Frag) : Sp := fun vs H Q E => ∃ (r l dx wl : Addr) (Z : Hp) (n : Int) (ws : List Str) (st : Rl), vs = [.ref r, .ref l] ∧ Tk K Z H r l dx wl n ws 1 st ∧ st.canH = true ∧ (¬ (isNm (wd ws 1) = true ∧ wd ws 1 ∉ st.hnames) → RefZ (He.ga K "BadText") Z E n 2) ∧
  (isNm (wd ws 1) = true ∧ wd ws 1 ∉ st.hnames → (numIn (wd ws 2) 0 9999 = none → RefZ (He.ga K "BadText") Z E n 3) ∧
    ∀ m, numIn (wd ws 2) 0 9999 = some m → ∀ Z' H', Same Z Z' → Tk K Z' H' r l dx wl n ws 3 (st.addH (wd ws 1) m) → Q .non H')
theorem ok_r_take_house (T : Txt K mg) : FnOk P w K mg base (L2.CX P w) 6 (a_r_take_house K) (fdOf K (a_r_take_house K)) P_r_take_house (spTakeH K) := by
  obtain ⟨t1, h1⟩ := T.i_MOST_WORTH
  refine T.F_r_take_house.ok sc_r_take_house (fun vs H Q E h => ?_) (fun cdv A outer s H vs Q E hr h => ?_)
  · obtain ⟨r, l, dx, wl, Z, n, ws, st, rfl, _⟩ := h
    rfl
  · obtain ⟨r, l, dx, wl, Z, n, ws, st, rfl, t, hcan, e, q⟩ := h
    obtain ⟨dxr, F, Pn, Nn, hrr, hP, hN, nPN, nx, S⟩ := t.ra
    obtain ⟨nr, nP, nN⟩ := nx l (List.mem_singleton.mpr rfl)
    obtain ⟨c0, hc0⟩ : ∃ c0, st.cur = some c0 := by
      unfold Rl.canH at hcan
      cases hc : st.cur with
      | none => rw [hc] at hcan; cases hcan
      | some c => exact ⟨c, rfl⟩
    obtain ⟨fs, a, L, us, hF, ha, hL, aL, nLF, ulen, key⟩ := S.addH hc0
    have nLr : L ≠ r := fun z => aL (by simp [z])
    have nLP : L ≠ Pn := fun z => aL (by simp [z])
    have nLN : L ≠ Nn := fun z => aL (by simp [z])
    have nLl : L ≠ l := fun z => aL (by simp [z])
    have nFr : F ≠ r := fun z => S.nF (by simp [z])
    have nFN : F ≠ Nn := fun z => S.nF (by simp [z])
    have nFl : F ≠ l := fun z => S.nF (by simp [z])
    have nrP : r ≠ Pn := ne_of hrr hP (by intro z; cases z)
    have nrN : r ≠ Nn := ne_of hrr hN (by intro z; cases z)
    have nar : a ≠ r := ne_of ha hrr (by intro z; cases z)
    have naN : a ≠ Nn := ne_of ha hN (by intro z; cases z)
    have nal : a ≠ l := ne_of ha t.la (by intro z; cases z)
    refine ⟨_, pss_cons (ps_set (i := 2) sc_r_take_house.nd rfl (Or.inl rfl) (pe_meth (pv 1) T.c_Line T.m_Line_name_unlike (ok_n_name_unlike T) hr T.b_n_name_unlike .nil (passX (takes_of rfl rfl rfl rfl)) (pa_cons (pe_fld (pv 0) rfl) pa_nil)))
      (pss_cons (ps_set (i := 3) sc_r_take_house.nd rfl (Or.inl rfl) (pe_meth (pv 1) T.c_Line T.m_Line_whole (ok_n_whole T) hr T.b_n_whole .nil (passX (takes_of rfl rfl rfl rfl)) (pa_cons pe_int (pa_cons (pe_glob (v := .int 9999) (by rfl) h1 ⟨t1, rfl⟩) pa_nil))))
      (pss_cons (ps_expr (pe_bm PySem.F.plainAttrs_list PySem.F.slot_list_append PySem.F.type_list_append mt_append (pe_fld (pv 0) rfl) (pa_cons (pv 2) pa_nil)))
      (pss_cons (ps_fld (pv 0) (pe_op op_add (pe_fld (pv 0) rfl) (pv 3)) rfl)
      (pss_one (ps_expr (pe_bm PySem.F.plainAttrs_list PySem.F.slot_list_append PySem.F.type_list_append mt_append (pe_ix ix_tup (pe_ix ix_list (pe_fld (pv 0) rfl) (pe_un un_neg pe_int) (fun _ _ => rfl)) pe_int (fun _ _ => rfl)) (pa_cons (pe_tup (pa_cons (pv 2) (pa_cons (pv 3) (pa_cons (pe_lst pa_nil) pa_nil)))) pa_nil))))))), ?_⟩
    refine ⟨_, rfl, l, dx, _, rfl, t.la, lnf_no _ _ _ (by decide +kernel) (by decide +kernel) (by decide +kernel), _, rfl, r, _, dxr, _, _, rfl, hrr, T.c_Rolls, T.na_Rolls_house_names, rf_hn _ _ _ _, ?_⟩
    refine ⟨l, dx, wl, Nn, n, 1, ws, st.hnames, rfl, t.la, t.hw, hN, t.sh, fun c => t.toX (e c), fun c H1 s1 la1 => ?_⟩
    have t1 := t.step s1 la1
    obtain ⟨q1, q2⟩ := q c
    refine ⟨_, rfl, l, dx, _, rfl, t1.la, lnf_no _ _ _ (by decide +kernel) (by decide +kernel) (by decide +kernel), l, dx, wl, n, 0, 9999, 2, ws, rfl, t1.la, t1.hw, t1.sh, fun c => t1.toX (q1 c), fun m hm H2 s2 la2 => ?_⟩
    have s12 : SameX l H H2 := s1.trans s2
    have hr2 := s12 _ _ (Ne.symm nr) hrr
    have hN2 := s12 _ _ (Ne.symm nN) hN
    have hP2 := s12 _ _ (Ne.symm nP) hP
    refine ⟨_, rfl, r, _, dxr, _, _, rfl, hr2, T.c_Rolls, T.na_Rolls_house_names, rf_hn _ _ _ _, .inl ⟨rfl, _, SqL.of hN2⟩, _, rfl, Nn, _, _, rfl, rfl, hN2, sz (by rw [List.length_map]; exact Nat.le_trans t.wf.houses (by decide)), ?_⟩
    obtain ⟨H3, e3⟩ : ∃ H3, H3 = upd H2 Nn (.lst (st.hnames.map V.str ++ [V.str (wd ws 1)])) := ⟨_, rfl⟩
    rw [← e3]
    have hr3 : H3 r = some (.ins (He.ga K "Rolls") dxr (rf F Pn Nn st.worth)) := by
      rw [e3, upd_ne nrN]
      exact hr2
    refine ⟨_, rfl, r, _, dxr, _, _, rfl, hr3, T.c_Rolls, T.na_Rolls_worth_told, rf_w _ _ _ _, _, rfl, _, _, rfl, rfl, _, rfl, r, _, dxr, _, rfl, hr3, T.c_Rolls, T.na_Rolls_worth_told, (by show 4 < 1000; decide), ?_⟩
    rw [rf_put]
    obtain ⟨H4, e4⟩ : ∃ H4, H4 = upd H3 r (.ins (He.ga K "Rolls") dxr (rf F Pn Nn (st.worth + m))) := ⟨_, rfl⟩
    rw [← e4]
    have k4 : ∀ {b : Addr} {u : HO}, b ≠ r → b ≠ Nn → b ≠ l → H b = some u → H4 b = some u := fun {b u} n1 n2 n3 eb => by
      rw [e4, upd_ne n1, e3, upd_ne n2]
      exact s12 b u n3 eb
    have hr4 : H4 r = some (.ins (He.ga K "Rolls") dxr (rf F Pn Nn (st.worth + m))) := by
      rw [e4]
      exact upd_same
    have hN4 : H4 Nn = some (.lst (st.hnames.map V.str ++ [V.str (wd ws 1)])) := by
      rw [e4, upd_ne (Ne.symm nrN), e3]
      exact upd_same
    have hl4 : LnAt K H4 l dx wl n 3 := by
      unfold LnAt
      rw [e4, upd_ne nr, e3, upd_ne nN]
      exact la2
    have hP4 : H4 Pn = some (.lst (st.pnames.map V.str)) := k4 (Ne.symm nrP) nPN (Ne.symm nP) hP
    have lv4 : ∀ x ∈ [r, Pn, Nn, l], H4 x ≠ none := fun x hx => by
      simp at hx
      rcases hx with z | z | z | z <;> rw [z]
      · exact some_ne hr4
      · exact some_ne hP4
      · exact some_ne hN4
      · exact some_ne hl4
    have x4 : SameXs [r, Pn, Nn, l] H H4 := fun b u m eb => by
      simp at m
      exact k4 m.1 m.2.2.1 m.2.2.2 eb
    have hF4 := k4 nFr nFN nFl hF
    have ha4 := k4 nar naN nal ha
    have hL4 := k4 nLr nLN nLl hL
    refine ⟨_, rfl, r, _, dxr, _, _, rfl, hr4, T.c_Rolls, T.na_Rolls_found, rf_found _ _ _ _, _, rfl, F, _, _, _, rfl, rfl, SqL.of hF4, atI_last _ _, a, _, _, _, rfl, rfl, SqT.of ha4, atI_nat (j := 1) rfl, .inl ⟨rfl, _, SqL.of hL4⟩, ?_⟩
    refine ⟨_, rfl, _, rfl, Nat.zero_le _, fun G' nG => ⟨(by show 3 ≤ sizeLine; decide), fun b' nb => ?_⟩⟩
    obtain ⟨nbG, nb⟩ := new_upd nb
    have s5 := (Same.new (o := .lst []) nG).trans (Same.new (o := .tup [.str (wd ws 1), .int m, .ref G']) (by rw [upd_ne nbG]; exact nb))
    have hL5 := s5 _ _ hL4
    have GL : G' ≠ L := (ne_of_none hL4 nG).symm
    have bL : b' ≠ L := (ne_of_none hL4 nb).symm
    have hcan' := hcan
    unfold Rl.canH at hcan'
    rw [hc0] at hcan'
    refine ⟨L, _, _, rfl, rfl, hL5, sz (by rw [ulen]; have := of_decide_eq_true (Bool.and_eq_true_iff.mp hcan').1; omega), ?_⟩
    obtain ⟨H7, e7⟩ : ∃ H7, H7 = upd (upd (upd H4 G' (.lst [])) b' (.tup [.str (wd ws 1), .int m, .ref G'])) L (.lst (us ++ [.ref b'])) := ⟨_, rfl⟩
    rw [← e7]
    have k7 : ∀ {b : Addr} {u : HO}, b ≠ L → H4 b = some u → H7 b = some u := fun {b u} n1 eb => by
      rw [e7, upd_ne n1]
      exact s5 b u eb
    have lv7 : ∀ x ∈ [r, Pn, Nn, l], H7 x ≠ none := fun x hx => by
      have z := lv4 x hx
      cases ee : H4 x with
      | none => exact absurd ee z
      | some u =>
        rw [k7 (fun z => aL (z ▸ hx)) ee]
        intro z
        cases z
    obtain ⟨Z', zz, S7⟩ := key (wd ws 1) m G' b' H7 (fresh_back x4 lv4 nG) (fresh_back x4 lv4 nb) nbG (fun b u mb eb => k7 (fun z => mb (by simp [z])) (x4 b u (fun z => mb (List.mem_cons_of_mem _ z)) eb)) lv7
      (by rw [e7, upd_ne GL, upd_ne (Ne.symm nbG), upd_same]) (by rw [e7, upd_ne bL, upd_same]) (by rw [e7]; exact upd_same)
    refine q2 m hm Z' H7 zz ⟨⟨dxr, F, Pn, Nn, ?_, ?_, ?_, nPN, nx, S7⟩, k7 (Ne.symm nLl) hl4, zz _ _ t.wz, t.sh, wf_addH t.wf hcan c hm⟩
    · rw [worth_addH hc0]
      exact k7 (Ne.symm nLr) hr4
    · rw [pnames_addH hc0]
      exact k7 (Ne.symm nLP) hP4
    · rw [hnames_addH hc0, ← mapS]
      exact k7 (Ne.symm nLN) hN4
def spTakeG (K : PySem.W.Frag) : Sp := fun vs H Q E => ∃ (r l dx wl : Addr) (Z : Hp) (n : Int) (ws : List Str) (st : Rl), vs = [.ref r, .ref l] ∧ Tk K Z H r l dx wl n ws 1 st ∧ st.canG = true ∧ (isNm (wd ws 1) = false → RefZ (He.ga K "BadText") Z E n 2) ∧
  (isNm (wd ws 1) = true → (numIn (wd ws 2) st.least 360 = none → RefZ (He.ga K "BadText") Z E n 3) ∧
    ∀ f, numIn (wd ws 2) st.least 360 = some f → (numIn (wd ws 3) f 360 = none → RefZ (He.ga K "BadText") Z E n 4) ∧
      ∀ t, numIn (wd ws 3) f 360 = some t → ∀ Z' H', Same Z Z' → Tk K Z' H' r l dx wl n ws 4 (st.addG (wd ws 1, f, t)) → Q .non H')
theorem ok_r_take_held (T : Txt K mg) : FnOk P w K mg base (L2.CX P w) 6 (a_r_take_held K) (fdOf K (a_r_take_held K)) P_r_take_held (spTakeG K) := by
  obtain ⟨t1, h1⟩ := T.i_LAST_DAY
  refine T.F_r_take_held.ok sc_r_take_held (fun vs H Q E h => ?_) (fun cdv A outer s H vs Q E hr h => ?_)
  · obtain ⟨r, l, dx, wl, Z, n, ws, st, rfl, _⟩ := h
    rfl
  · obtain ⟨r, l, dx, wl, Z, n, ws, st, rfl, t, hcan, e, q⟩ := h
    obtain ⟨dxr, F, Pn, Nn, hrr, hP, hN, nPN, nx, S⟩ := t.ra
    obtain ⟨nr, nP, nN⟩ := nx l (List.mem_singleton.mpr rfl)
    have hu := hu_of hr
    obtain ⟨pn, hd, h0, hc0⟩ : ∃ pn hd h0, st.cur = some ⟨pn, hd, some h0⟩ := by
      unfold Rl.canG at hcan
      split at hcan
      · rename_i pn hd h0 hc
        exact ⟨_, _, _, hc⟩
      · cases hcan
    have lG : h0.2.2.length < 12 := by
      unfold Rl.canG at hcan
      rw [hc0] at hcan
      exact of_decide_eq_true hcan
    have eL : st.least = (match h0.2.2.getLast? with | none => 1 | some g => g.2.2 + 1) := by
      unfold Rl.least
      rw [hc0] <;> rfl
    obtain ⟨fs, a, L, us, b, G, gs, hF, ha, hL, ulen, hb, hG, aG, nGF, hw, key⟩ := S.addG hc0
    have nGr : G ≠ r := fun z => aG (by simp [z])
    have nGP : G ≠ Pn := fun z => aG (by simp [z])
    have nGN : G ≠ Nn := fun z => aG (by simp [z])
    have nGl : G ≠ l := fun z => aG (by simp [z])
    refine ⟨_, pss_cons (ps_set (i := 2) sc_r_take_held.nd rfl (Or.inl rfl) (pe_ix ix_tup (pe_ix ix_list (pe_ix ix_tup (pe_ix ix_list (pe_fld (pv 0) rfl) (pe_un un_neg pe_int) (fun _ _ => rfl)) pe_int (fun _ _ => rfl)) (pe_un un_neg pe_int) (fun _ _ => rfl)) pe_int (fun _ _ => rfl)))
      (pss_cons (ps_set (i := 3) sc_r_take_held.nd rfl (Or.inl rfl) (pe_meth (pv 1) T.c_Line T.m_Line_name_unlike (ok_n_name_unlike T) hr T.b_n_name_unlike .nil (passX (takes_of rfl rfl rfl rfl)) (pa_cons (pe_lst pa_nil) pa_nil)))
      (pss_cons (ps_set (i := 4) sc_r_take_held.nd rfl (Or.inl rfl) (pe_cut (pe_ifExp (pt_cmpR (op_neN (Nat.lt_of_succ_lt hu)) (pv 2) (pe_lst pa_nil) (nomark _)) (pe_op op_add (pe_ix ix_tup (pe_ix ix_list (pv 2) (pe_un un_neg pe_int) (fun _ _ => rfl)) pe_int (fun _ _ => rfl)) pe_int) pe_int)))
      (pss_cons (ps_set (i := 5) sc_r_take_held.nd rfl (Or.inl rfl) (pe_meth (pv 1) T.c_Line T.m_Line_whole (ok_n_whole T) hr T.b_n_whole .nil (passX (takes_of rfl rfl rfl rfl)) (pa_cons (pv 4) (pa_cons (pe_glob (v := .int 360) (by rfl) h1 ⟨t1, rfl⟩) pa_nil))))
      (pss_one (ps_expr (pe_bm PySem.F.plainAttrs_list PySem.F.slot_list_append PySem.F.type_list_append mt_append (pv 2) (pa_cons (pe_tup (pa_cons (pv 3) (pa_cons (pv 5) (pa_cons
        (pe_meth (pv 1) T.c_Line T.m_Line_whole (ok_n_whole T) hr T.b_n_whole .nil (passX (takes_of rfl rfl rfl rfl)) (pa_cons (pv 5) (pa_cons (pe_glob (v := .int 360) (by rfl) h1 ⟨t1, rfl⟩) pa_nil))) pa_nil)))) pa_nil))))))), ?_⟩
    refine ⟨_, rfl, r, _, dxr, _, _, rfl, hrr, T.c_Rolls, T.na_Rolls_found, rf_found _ _ _ _, _, rfl, F, _, _, _, rfl, rfl, SqL.of hF, atI_last _ _, a, _, _, _, rfl, rfl, SqT.of ha, atI_nat (j := 1) rfl, _, rfl, L, _, _, _, rfl, rfl, SqL.of hL, atI_last _ _, b, _, _, _, rfl, rfl, SqT.of hb, atI_nat (j := 2) rfl, ?_⟩
    -- holder
    refine ⟨_, rfl, l, dx, _, rfl, t.la, lnf_no _ _ _ (by decide +kernel) (by decide +kernel) (by decide +kernel), Nat.zero_le _, fun e0 ne0 => ?_⟩
    have sa : Same H (upd H e0 (.lst [])) := Same.new ne0
    have ta : Tk K Z (upd H e0 (.lst [])) r l dx wl n ws 1 st := ⟨t.ra.same sa, sa _ _ t.la, t.wz, t.sh, t.wf⟩
    refine ⟨l, dx, wl, e0, n, 1, ws, [], rfl, ta.la, ta.hw, upd_same, t.sh, fun c => ta.toX (e ?_), fun c H1 s1 la1 => ?_⟩
    · cases z : isNm (wd ws 1) with
      | false => rfl
      | true => exact absurd ⟨z, by simp⟩ c
    have t1 := ta.step s1 la1
    obtain ⟨q1, q2⟩ := q c.1
    have hG1 : H1 G = some (.lst gs) := s1 _ _ nGl (sa _ _ hG)
    -- least
    refine ⟨fun v H2 => v = .int st.least ∧ Same H1 H2, ?_, ?_⟩
    · refine ⟨_, rfl, Nat.zero_le _, fun e1 ne1 => ?_⟩
      have sb : Same H1 (upd H1 e1 (.lst [])) := Same.new ne1
      refine ⟨G, e1, gs, rfl, rfl, SqL.of (sb _ _ hG1), SqL.of upd_same, _, rfl, ?_⟩
      rw [if_pos rfl]
      rcases List.eq_nil_or_concat h0.2.2 with z | ⟨gs0, g, z⟩
      · rw [z] at hw
        have eg : gs = [] := List.length_eq_zero_iff.mp hw.length
        subst eg
        refine iteF ⟨?_, sb⟩
        rw [eL, z]
        rfl
      · rw [List.concat_eq_append] at z
        rw [z] at hw
        obtain ⟨as, v, eg, _, x, ev, hx⟩ := hw.split_last
        subst eg
        subst ev
        rw [show (!(as ++ [V.ref x]).isEmpty) = true by simp]
        refine iteT ?_
        have hx1 : H1 x = some (.tup [.str g.1, .int g.2.1, .int g.2.2]) := t1.ra.zh _ _ hx
        refine ⟨_, rfl, _, rfl, G, _, _, _, rfl, rfl, SqL.of (sb _ _ hG1), atI_last _ _, x, _, _, _, rfl, rfl, SqT.of (sb _ _ hx1), atI_nat (j := 2) rfl, _, _, rfl, rfl, ?_, sb⟩
        rw [eL, z]
        simp
    · rintro v H2 ⟨rfl, sb⟩
      have t2 : Tk K Z H2 r l dx wl n ws 2 st := ⟨t1.ra.same sb, sb _ _ t1.la, t.wz, t.sh, t.wf⟩
      refine ⟨_, rfl, l, dx, _, rfl, t2.la, lnf_no _ _ _ (by decide +kernel) (by decide +kernel) (by decide +kernel), _, rfl, l, dx, wl, n, st.least, 360, 2, ws, rfl, t2.la, t2.hw, t2.sh, fun c => t2.toX (q1 c), fun f hf H3 s3 la3 => ?_⟩
      have t3 := t2.step s3 la3
      obtain ⟨q3, q4⟩ := q2 f hf
      have hG3 : H3 G = some (.lst gs) := s3 _ _ nGl (sb _ _ hG1)
      refine ⟨_, rfl, .inl ⟨rfl, _, SqL.of hG3⟩, _, rfl, _, rfl, _, rfl, l, dx, _, rfl, t3.la, lnf_no _ _ _ (by decide +kernel) (by decide +kernel) (by decide +kernel), _, rfl, l, dx, wl, n, f, 360, 3, ws, rfl, t3.la, t3.hw, t3.sh, fun c => t3.toX (q3 c), fun m hm H4 s4 la4 => ?_⟩
      have x4 : SameX l H H4 := (((Same.toX sa l).trans s1).trans (Same.toX sb l)).trans (s3.trans s4)
      have hG4 : H4 G = some (.lst gs) := x4 _ _ nGl hG
      refine ⟨(by show 3 ≤ sizeLine; decide), fun t' nt => ?_⟩
      have s5 : Same H4 (upd H4 t' (.tup [.str (wd ws 1), .int f, .int m])) := Same.new nt
      refine ⟨G, _, _, rfl, rfl, s5 _ _ hG4, sz (by rw [hw.length]; omega), ?_⟩
      obtain ⟨H6, e6⟩ : ∃ H6, H6 = upd (upd H4 t' (.tup [.str (wd ws 1), .int f, .int m])) G (.lst (gs ++ [.ref t'])) := ⟨_, rfl⟩
      rw [← e6]
      have k6 : ∀ {b : Addr} {u : HO}, b ≠ G → H4 b = some u → H6 b = some u := fun {b u} n1 eb => by
        rw [e6, upd_ne n1]
        exact s5 b u eb
      have lv4 : ∀ x ∈ [l], H4 x ≠ none := fun x hx => by
        rw [List.mem_singleton.mp hx]
        exact some_ne la4
      have hr6 := k6 (Ne.symm nGr) (x4 _ _ (Ne.symm nr) hrr)
      have hP6 := k6 (Ne.symm nGP) (x4 _ _ (Ne.symm nP) hP)
      have hN6 := k6 (Ne.symm nGN) (x4 _ _ (Ne.symm nN) hN)
      have hl6 : LnAt K H6 l dx wl n 4 := k6 (Ne.symm nGl) la4
      have lv6 : ∀ x ∈ [r, Pn, Nn, l], H6 x ≠ none := fun x hx => by
        simp at hx
        rcases hx with z | z | z | z <;> rw [z]
        · exact some_ne hr6
        · exact some_ne hP6
        · exact some_ne hN6
        · exact some_ne hl6
      have tG : t' ≠ G := (ne_of_none hG4 nt).symm
      obtain ⟨Z', zz, S6⟩ := key (wd ws 1, f, m) t' H6 (fresh_back (x4.toXs (List.mem_singleton.mpr rfl)) lv4 nt) (fun b u mb eb => k6 (fun z => mb (by simp [z])) (x4 b u (fun z => mb (by simp [z])) eb)) lv6
        (by rw [e6, upd_ne tG, upd_same]) (by rw [e6]; exact upd_same)
      refine q4 m hm Z' H6 zz ⟨⟨dxr, F, Pn, Nn, ?_, ?_, ?_, nPN, nx, S6⟩, hl6, zz _ _ t.wz, t.sh, wf_addG t.wf hcan c.1 hf hm⟩
      · rw [worth_addG hc0]
        exact hr6
      · rw [pnames_addG hc0]
        exact hP6
      · rw [hnames_addG hc0]
        exact hN6
end
end Pr
end

section
set_option Elab.async false
set_option linter.all false
set_option maxRecDepth 100000
set_option maxHeartbeats 4000000
/-! Lists that are built of what does not change; the county as tuples. -/
namespace Pr
open PySem L2
/-- tuples stay -/
def TupS (H H' : Hp) : Prop := ∀ b xs, H b = some (.tup xs) → H' b = some (.tup xs)
theorem Same.tups {H H' : Hp} (s : Same H H') : TupS H H' := fun b xs e => s b _ e
theorem TupS.trans {H H1 H2 : Hp} (a : TupS H H1) (b : TupS H1 H2) : TupS H H2 := fun c o h => b c o (a c o h)
theorem TupS.lst {H : Hp} {D : Addr} {xs ys : List V} (h : H D = some (.lst xs)) : TupS H (upd H D (.lst ys)) := fun b zs e => by
  rw [upd_ne (ne_of e h (by intro z; cases z))]
  exact e
def TMono {α : Type} (R : Hp → V → α → Prop) : Prop := ∀ H H', TupS H H' → ∀ v a, R H v a → R H' v a
structure LT {α : Type} (R : Hp → V → α → Prop) (H0 H : Hp) (D : Addr) (as : List α) : Prop where
  same : Same H0 H
  at_ : ∃ acc, H D = some (.lst acc) ∧ All2 (R H) acc as
theorem LT.nil {α : Type} {R : Hp → V → α → Prop} {H0 : Hp} {D : Addr} (n : H0 D = none) : LT R H0 (upd H0 D (.lst [])) D [] := ⟨Same.new n, [], upd_same, True.intro⟩
theorem LT.step {α : Type} {R : Hp → V → α → Prop} (hR : TMono R) {H0 H H4 : Hp} {D : Addr} {as : List α} {acc : List V} {y : V} {a : α} (n : H0 D = none) (t : LT R H0 H D as) (h : H D = some (.lst acc)) (k : Same H H4) (r : R H4 y a) : LT R H0 (upd H4 D (.lst (acc ++ [y]))) D (as ++ [a]) := by
  obtain ⟨s, acc', h', q⟩ := t
  rw [h] at h'
  cases h'
  have ts : TupS H4 (upd H4 D (.lst (acc ++ [y]))) := TupS.lst (k _ _ h)
  refine ⟨fun b u e => ?_, _, upd_same, (q.mono (hR _ _ ((Same.tups k).trans ts))).snoc (hR _ _ ts _ _ r)⟩
  rw [upd_ne (ne_of_none e n)]
  exact k _ _ (s _ _ e)
theorem All2.at {α β : Type} {R : α → β → Prop} : ∀ {as : List α} {bs : List β}, All2 R as bs → ∀ {i : Nat} {b : β}, bs[i]? = some b → ∃ a, as[i]? = some a ∧ R a b
  | [], [], _, i, a, h => by simp at h
  | x :: as, y :: bs, q, 0, a, h => ⟨x, rfl, by cases (Option.some.inj h); exact q.1⟩
  | x :: as, y :: bs, q, i + 1, a, h => All2.at q.2 (i := i) h
  | [], _ :: _, x, _, _, _ => x.elim
  | _ :: _, [], x, _, _, _ => x.elim
theorem take_succ' {α : Type} {as : List α} {i : Nat} {a : α} (h : as[i]? = some a) : as.take (i + 1) = as.take i ++ [a] := by
  rw [List.take_add_one, h]
  rfl
/-- a comprehension over a list whose items stand for as; it makes tuples of them -/
theorem lc_T {α : Type} {K : PySem.W.Frag} {a : Addr} {xs : List V} {as : List α} (S : V → α → Prop) (R : Hp → V → α → Prop) (hR : TMono R) {g : TG} {te : TE} {vs : List Nat} {σ : L2.St} {H1 : Hp} {D : Addr} {Qd : Hp → Prop}
    (nD : H1 D = none) (hl : SqL K H1 a xs) (hS : All2 S xs as) (hz : as.length ≤ sizeLine)
    (hs : ∀ x b H (N : VK), S x b → b ∈ as → Same H1 H → (∀ y H4, Same H H4 → R H4 y b → N y H4) → g x (wipe σ vs) H fun σ2 H2 => wipe σ2 vs = wipe σ vs ∧ te σ2 H2 N)
    (hd : ∀ H' acc, Same H1 H' → H' D = some (.lst acc) → All2 (R H') acc as → Qd H') :
    ∃ W : Nat → Nat → Hp → Prop, (∃ m, W 0 m (upd H1 D (.lst []))) ∧ ∀ i m H, W i m H →
      ((Itl K a).stop i H ∧ Qd H) ∨ ((Itl K a).go i H ∧ ∃ Nx : Hp → Prop, (∀ H', Nx H' → ∃ m', m' < m ∧ W (i + 1) m' H') ∧ ∀ x H', (Itl K a).yld i H x H' → g x (wipe σ vs) H' fun σ2 H2 => wipe σ2 vs = wipe σ vs ∧ tYes σ2 H2 fun b H3 =>
        if b = true then te σ2 H3 fun y H4 => ∃ acc, H4 D = some (.lst acc) ∧ acc.length < sizeLine ∧ Nx (upd H4 D (.lst (acc ++ [y]))) else Nx H3) := by
  have hxl := hS.length
  refine lc_list (K := K) (a := a) (xs := xs) (fun i H => LT R H1 H D (as.take i)) (LT.nil nD) (fun i H _ t => t.same.seq hl) (fun i x H hx t => ?_) (fun H t => ?_)
  · obtain ⟨b, hb, sb⟩ := hS.get hx
    obtain ⟨acc, ha, qa⟩ := t.at_
    have hi : i < as.length := (List.getElem?_eq_some_iff.mp hb).1
    have q := hs x b H (fun y H4 => ∃ acc, H4 D = some (.lst acc) ∧ acc.length < sizeLine ∧ LT R H1 (upd H4 D (.lst (acc ++ [y]))) D (as.take (i + 1))) sb (List.mem_of_getElem? hb) t.same (fun y H4 k r => ⟨acc, k _ _ ha, by
      rw [qa.length, List.length_take]
      omega, by
      rw [take_succ' hb]
      exact LT.step hR nD t ha k r⟩)
    have e : (fun (σ2 : L2.St) (H2 : Hp) => wipe σ2 vs = wipe σ vs ∧ tYes σ2 H2 fun b H3 => if b = true then te σ2 H3 fun y H4 => ∃ acc', H4 D = some (.lst acc') ∧ acc'.length < sizeLine ∧ LT R H1 (upd H4 D (.lst (acc' ++ [y]))) D (as.take (i + 1)) else LT R H1 H3 D (as.take (i + 1))) =
        fun σ2 H2 => wipe σ2 vs = wipe σ vs ∧ te σ2 H2 fun y H4 => ∃ acc', H4 D = some (.lst acc') ∧ acc'.length < sizeLine ∧ LT R H1 (upd H4 D (.lst (acc' ++ [y]))) D (as.take (i + 1)) := by
      funext σ2 H2
      simp [tYes]
    rw [e]
    exact q
  · rw [hxl, List.take_length] at t
    obtain ⟨acc, h, q⟩ := t.at_
    exact hd H acc t.same h q
/-! ### the county, finished -/
def OHouse (H : Hp) (v : V) (h : House) : Prop := ∃ a c ws, v = .ref a ∧ H a = some (.tup [.str h.1, .int h.2.1, .ref c]) ∧ H c = some (.tup ws) ∧ All2 (HeldAt H) ws h.2.2
def OPar (H : Hp) (v : V) (p : Parish) : Prop := ∃ a c us, v = .ref a ∧ H a = some (.tup [.str p.1, .ref c]) ∧ H c = some (.tup us) ∧ All2 (OHouse H) us p.2
def OCo (H : Hp) (p : Addr) (ps : List Parish) : Prop := ∃ vs, H p = some (.tup vs) ∧ All2 (OPar H) vs ps
theorem heldT : TMono HeldAt := fun H H' s v g ⟨a, e, h⟩ => ⟨a, e, s _ _ h⟩
theorem ohouseT : TMono OHouse := fun H H' s v g ⟨a, c, ws, e, h1, h2, h3⟩ => ⟨a, c, ws, e, s _ _ h1, s _ _ h2, h3.mono (heldT _ _ s)⟩
theorem oparT : TMono OPar := fun H H' s v g ⟨a, c, ws, e, h1, h2, h3⟩ => ⟨a, c, ws, e, s _ _ h1, s _ _ h2, h3.mono (ohouseT _ _ s)⟩
theorem ocoT {H H' : Hp} {p : Addr} {ps : List Parish} (s : TupS H H') (h : OCo H p ps) : OCo H' p ps := by
  obtain ⟨vs, h1, h2⟩ := h
  exact ⟨vs, s _ _ h1, h2.mono (oparT _ _ s)⟩
theorem dpAll_of {α : Type} {K : PySem.W.Frag} {H : Hp} (f : α → PyData) : ∀ {vs : List V} {as : List α}, All2 (fun v a => Dp K H v (f a)) vs as → DpAll K H vs (as.map f)
  | [], [], _ => .nil
  | _ :: _, _ :: _, x => .cons x.1 (dpAll_of f x.2)
  | [], _ :: _, x => x.elim
  | _ :: _, [], x => x.elim
variable {K : PySem.W.Frag} {H : Hp}
theorem held_dp (v : V) (g : Held) (h : HeldAt H v g) : Dp K H v (dHeld g) := by
  obtain ⟨a, rfl, h⟩ := h
  exact .tup (SqT.of h) (.cons (.str _) (.cons (.int _) (.cons (.int _) .nil)))
theorem house_dp (v : V) (g : House) (h : OHouse H v g) : Dp K H v (dHouse g) := by
  obtain ⟨a, c, ws, rfl, h1, h2, h3⟩ := h
  exact .tup (SqT.of h1) (.cons (.str _) (.cons (.int _) (.cons (.tup (SqT.of h2) (dpAll_of dHeld (h3.mono held_dp))) .nil)))
theorem par_dp (v : V) (g : Parish) (h : OPar H v g) : Dp K H v (dParish g) := by
  obtain ⟨a, c, ws, rfl, h1, h2, h3⟩ := h
  exact .tup (SqT.of h1) (.cons (.str _) (.cons (.tup (SqT.of h2) (dpAll_of dHouse (h3.mono house_dp))) .nil))
theorem co_dp {p : Addr} {ps : List Parish} (h : OCo H p ps) : Dp K H (.ref p) (dCounty ps) := by
  obtain ⟨vs, h1, h2⟩ := h
  exact .tup (SqT.of h1) (dpAll_of dParish (h2.mono par_dp))
end Pr
end

section
set_option Elab.async false
set_option linter.all false
set_option maxRecDepth 100000
set_option maxHeartbeats 4000000
/-! Rolls.take, whole_county; read_county. -/
namespace Pr
open PySem L2
section
variable {P : Program} {w : World} {K : PySem.W.Frag} {mg : Str → Option Value} {base : Heap}
theorem fw_mem {z : Str} {st : Rl} : z ∈ fw st ↔ (z = "parish" ∧ st.canP = true) ∨ (z = "house" ∧ st.canH = true) ∨ (z = "held" ∧ st.canG = true) := by
  have e : ∀ (b : Bool) (y : Str), z ∈ (if b = true then [y] else []) ↔ z = y ∧ b = true := fun b y => by
    cases b <;> simp
  unfold fw fwP fwH fwG
  rw [List.mem_append, List.mem_append, e, e, e, or_assoc]
theorem ph : ¬ (("parish" : Str) = "house") := by decide +kernel
theorem pg' : ¬ (("parish" : Str) = "held") := by decide +kernel
theorem hp : ¬ (("house" : Str) = "parish") := by decide +kernel
theorem hg' : ¬ (("house" : Str) = "held") := by decide +kernel
theorem gp : ¬ (("held" : Str) = "parish") := by decide +kernel
theorem gh : ¬ (("held" : Str) = "house") := by decide +kernel
theorem take_no {st : Rl} {ws : List Str} (h : wd ws 0 ∉ fw st) : takeLine st ws = .error 0 := by
  unfold takeLine
  rw [if_neg (fun q => h (fw_mem.mpr (.inl q))), if_neg (fun q => h (fw_mem.mpr (.inr (.inl q)))), if_neg (fun q => h (fw_mem.mpr (.inr (.inr q))))]
theorem take_P {st : Rl} {ws : List Str} (h : wd ws 0 ∈ fw st) (e : wd ws 0 = "parish") : st.canP = true ∧ takeLine st ws = takeP st ws := by
  have c : st.canP = true := by
    rcases fw_mem.mp h with q | q | q
    · exact q.2
    · exact absurd (e.symm.trans q.1) ph
    · exact absurd (e.symm.trans q.1) pg'
  exact ⟨c, if_pos ⟨e, c⟩⟩
theorem take_H {st : Rl} {ws : List Str} (h : wd ws 0 ∈ fw st) (e : wd ws 0 = "house") : st.canH = true ∧ takeLine st ws = takeH st ws := by
  have c : st.canH = true := by
    rcases fw_mem.mp h with q | q | q
    · exact absurd (e.symm.trans q.1) hp
    · exact q.2
    · exact absurd (e.symm.trans q.1) hg'
  refine ⟨c, ?_⟩
  unfold takeLine
  rw [if_neg (fun q => hp (e.symm.trans q.1)), if_pos ⟨e, c⟩]
theorem take_G {st : Rl} {ws : List Str} (h : wd ws 0 ∈ fw st) (e1 : ¬ wd ws 0 = "parish") (e2 : ¬ wd ws 0 = "house") : st.canG = true ∧ takeLine st ws = takeG st ws := by
  have c : wd ws 0 = "held" ∧ st.canG = true := by
    rcases fw_mem.mp h with q | q | q
    · exact absurd q.1 e1
    · exact absurd q.1 e2
    · exact q
  refine ⟨c.2, ?_⟩
  unfold takeLine
  rw [if_neg (fun q => e1 q.1), if_neg (fun q => e2 q.1), if_pos c]
def spTake (K : PySem.W.Frag) : Sp := fun vs H Q E => ∃ (r l dx wl : Addr) (Z : Hp) (n : Int) (ws : List Str) (st : Rl), vs = [.ref r, .ref l] ∧ Tk K Z H r l dx wl n ws 0 st ∧ (∀ k : Nat, takeLine st ws = .error k → RefZ (He.ga K "BadText") Z E n ((k : Int) + 1)) ∧
  (∀ st', takeLine st ws = .ok st' → ∀ Z' H', Same Z Z' → RAt K Z' H' r [l] st' → Q .non H')
theorem ok_r_take (T : Txt K mg) : FnOk P w K mg base (L2.CX P w) 7 (a_r_take K) (fdOf K (a_r_take K)) P_r_take (spTake K) := by
  refine T.F_r_take.ok sc_r_take (fun vs H Q E h => ?_) (fun cdv A outer s H vs Q E hr h => ?_)
  · obtain ⟨r, l, dx, wl, Z, n, ws, st, rfl, _⟩ := h
    rfl
  · obtain ⟨r, l, dx, wl, Z, n, ws, st, rfl, t, e, q⟩ := h
    have px : ∀ {X : Cx} {E : XK} (tk : Takes X (fun cls d _ H => E cls d H)), Passes (L2.CX X.prog X.w) X E := fun tk => passX tk
    have no : ∀ {wl : Addr} {n k : Int} {m : Str}, ¬ m = "words" → ¬ m = "on_line" → ¬ m = "at" → (lnf wl n k).lookup m = none := fun h1 h2 h3 => lnf_no _ _ _ h1 h2 h3
    refine ⟨_, pss_cons (ps_set (i := 2) sc_r_take.nd rfl (Or.inl rfl) (pe_meth (pv 1) T.c_Line T.m_Line_of_words (ok_n_of_words T) (hr.mono (by decide)) T.b_n_of_words .nil (passX (takes_of rfl rfl rfl rfl)) (pa_cons (pe_meth0 (pv 0) T.c_Rolls T.m_Rolls_first_words (ok_r_first_words T) (hr.mono (by decide)) T.b_r_first_words .nil (E := E0) pass0) pa_nil)))
      (pss_cons (ps_cut (ps_if (pt_cmpR op_eq (pv 2) pe_str (nomark _)) (pss_one (ps_expr (pe_meth (pv 0) T.c_Rolls T.m_Rolls_take_parish (ok_r_take_parish T) hr T.b_r_take_parish .nil (passX (takes_of rfl rfl rfl rfl)) (pa_cons (pv 1) pa_nil))))
        (pss_one (ps_if (pt_cmpR op_eq (pv 2) pe_str (nomark _)) (pss_one (ps_expr (pe_meth (pv 0) T.c_Rolls T.m_Rolls_take_house (ok_r_take_house T) hr T.b_r_take_house .nil (passX (takes_of rfl rfl rfl rfl)) (pa_cons (pv 1) pa_nil))))
          (pss_one (ps_expr (pe_meth (pv 0) T.c_Rolls T.m_Rolls_take_held (ok_r_take_held T) hr T.b_r_take_held .nil (passX (takes_of rfl rfl rfl rfl)) (pa_cons (pv 1) pa_nil))))))))
      (pss_one (ps_expr (pe_meth0 (pv 1) T.c_Line T.m_Line_over (ok_n_over T) (hr.mono (by decide)) T.b_n_over .nil (passX (takes_of rfl rfl rfl rfl)))))), ?_⟩
    have rat : ∀ {H : Hp}, RAt K Z H r [l] st → ∃ dxr F Pn Nn, H r = some (.ins (He.ga K "Rolls") dxr (rf F Pn Nn st.worth)) := fun R => by
      obtain ⟨dxr, F, Pn, Nn, h, _⟩ := R
      exact ⟨dxr, F, Pn, Nn, h⟩
    obtain ⟨dxr, F, Pn, Nn, hrr⟩ := rat t.ra
    refine ⟨_, rfl, l, dx, _, rfl, t.la, no (by decide +kernel) (by decide +kernel) (by decide +kernel), _, rfl, r, dxr, _, rfl, hrr, rf_no _ _ _ _ (by decide +kernel) (by decide +kernel) (by decide +kernel) (by decide +kernel), ?_⟩
    refine ⟨r, [l], Z, st, rfl, t.ra, fun p H1 s1 hp1 => ?_⟩
    have t1 : Tk K Z H1 r l dx wl n ws 0 st := ⟨t.ra.same s1, s1 _ _ t.la, t.wz, t.sh, t.wf⟩
    refine ⟨l, dx, wl, p, n, 0, ws, fw st, rfl, t1.la, t1.hw, hp1, fun c => t1.toX (e 0 (take_no c)), fun c H2 s2 la2 => ?_⟩
    have t2 := t1.step s2 la2
    obtain ⟨dxr2, F2, Pn2, Nn2, hrr2⟩ := rat t2.ra
    have fin : ∀ (k : Nat) (st' : Rl) (Z' H' : Hp), takeLine st ws = (if ws.length ≤ k then .ok st' else .error k) → Same Z Z' → Tk K Z' H' r l dx wl n ws k st' → (ws.length ≤ k → Q .non H') ∧ (k < ws.length → RefX (He.ga K "BadText") l H' E n ((k : Int) + 1)) := fun k st' Z' H' et zz t' => by
      refine ⟨fun c => ?_, fun c => ?_⟩
      · rw [if_pos c] at et
        exact q st' et Z' H' zz t'.ra
      · rw [if_neg (by omega)] at et
        exact t'.toX ((e k et).le zz)
    refine ⟨fun σ H' => σ = [some (.ref r), some (.ref l), some (.str (wd ws 0))] ∧ ∃ (k : Nat) (st' : Rl) (Z' : Hp), takeLine st ws = (if ws.length ≤ k then .ok st' else .error k) ∧ Same Z Z' ∧ Tk K Z' H' r l dx wl n ws k st', ?_, ?_⟩
    · refine ⟨_, rfl, rfl, _, rfl, iteD (fun c1 => ?_) (fun c1 => ?_)⟩
      · obtain ⟨hc, ht⟩ := take_P c (V.str.inj c1)
        refine ⟨_, rfl, r, dxr2, _, rfl, hrr2, rf_no _ _ _ _ (by decide +kernel) (by decide +kernel) (by decide +kernel) (by decide +kernel), _, rfl, r, l, dx, wl, Z, n, ws, st, rfl, t2, hc, fun c => e 1 ?_, fun c Z' H' zz t' => ⟨rfl, 2, st.addP (wd ws 1), Z', ?_, zz, t'⟩⟩
        · rw [ht]
          exact if_neg c
        · rw [ht]
          exact if_pos c
      · refine ⟨_, rfl, rfl, _, rfl, iteD (fun c2 => ?_) (fun c2 => ?_)⟩
        · obtain ⟨hc, ht⟩ := take_H c (V.str.inj c2)
          refine ⟨_, rfl, r, dxr2, _, rfl, hrr2, rf_no _ _ _ _ (by decide +kernel) (by decide +kernel) (by decide +kernel) (by decide +kernel), _, rfl, r, l, dx, wl, Z, n, ws, st, rfl, t2, hc, fun c => e 1 ?_, fun c => ⟨fun cn => e 2 ?_, fun m hm Z' H' zz t' => ⟨rfl, 3, st.addH (wd ws 1) m, Z', ?_, zz, t'⟩⟩⟩
          · rw [ht]
            exact if_neg c
          · rw [ht]
            unfold takeH
            rw [if_pos c, cn]
          · rw [ht]
            unfold takeH
            rw [if_pos c, hm]
        · obtain ⟨hc, ht⟩ := take_G c (fun z => c1 (congrArg V.str z)) (fun z => c2 (congrArg V.str z))
          refine ⟨_, rfl, r, dxr2, _, rfl, hrr2, rf_no _ _ _ _ (by decide +kernel) (by decide +kernel) (by decide +kernel) (by decide +kernel), _, rfl, r, l, dx, wl, Z, n, ws, st, rfl, t2, hc, fun c => e 1 ?_, fun c => ⟨fun cn => e 2 ?_, fun f hf => ⟨fun cn => e 3 ?_, fun m hm Z' H' zz t' => ⟨rfl, 4, st.addG (wd ws 1, f, m), Z', ?_, zz, t'⟩⟩⟩⟩
          · rw [ht]
            unfold takeG
            rw [c]
            rfl
          · rw [ht]
            unfold takeG
            rw [if_pos c, cn]
          · rw [ht]
            unfold takeG
            rw [if_pos c, hf]
            show (match numIn (wd ws 3) f 360 with | none => _ | some t => _) = _
            rw [cn]
          · rw [ht]
            unfold takeG
            rw [if_pos c, hf]
            show (match numIn (wd ws 3) f 360 with | none => _ | some t => _) = _
            rw [hm]
    · rintro σ H' ⟨rfl, k, st', Z', et, zz, t'⟩
      obtain ⟨f1, f2⟩ := fin k st' Z' H' et zz t'
      exact ⟨_, rfl, l, dx, _, rfl, t'.la, no (by decide +kernel) (by decide +kernel) (by decide +kernel), l, dx, wl, n, k, ws, rfl, t'.la, t'.hw, f2, f1⟩
def rTupK (K : PySem.W.Frag) : List V → Hp → VK → Prop := fun xs H Q => ∃ p ys, xs = [.ref p] ∧ ((SqL K H p ys ∧ ∀ l, H l = none → Q (.ref l) (upd H l (.tup ys))) ∨ (SqT K H p ys ∧ Q (.ref p) H))
theorem call_tupK {X : Cx} {K : PySem.W.Frag} (h : X.K = K) : CallR X (.type "tuple") (rTupK K) := by
  subst h
  exact call_tuple_of
def spWholeC (K : PySem.W.Frag) : Sp := fun vs H Q E => ∃ (r : Addr) (Z : Hp) (n : Int) (st : Rl), vs = [.ref r, .int n] ∧ RAt K Z H r [] st ∧ st.Wf ∧ st.cur ≠ none ∧ (st.short = true → RefZ (He.ga K "BadText") Z E n 1) ∧
  (st.short = false → ∀ p H', Same Z H' → OCo H' p st.all → Q (.ref p) H')
theorem ok_r_whole_county (T : Txt K mg) : FnOk P w K mg base (L2.CX P w) 3 (a_r_whole_county K) (fdOf K (a_r_whole_county K)) P_r_whole_county (spWholeC K) := by
  refine T.F_r_whole_county.ok sc_r_whole_county (fun vs H Q E h => ?_) (fun cdv A outer s H vs Q E hr h => ?_)
  · obtain ⟨r, Z, n, st, rfl, _⟩ := h
    rfl
  · obtain ⟨r, Z, n, st, rfl, ⟨dxr, F, Pn, Nn, hrr, hP, hN, nPN, nx, S⟩, W, hcur, e, q⟩ := h
    have hu := hu_of hr
    have nd := sc_r_whole_county.nd
    refine ⟨_, pss_cons (ps_cut (ps_if (PW.pt (pw_or (pt_cmpR (op_eqN (Nat.lt_of_succ_lt hu)) (pe_ix ix_tup (pe_ix ix_list (pe_fld (pv 0) rfl) (pe_un un_neg pe_int) (fun _ _ => rfl)) pe_int (fun _ _ => rfl)) (pe_lst pa_nil) (nomark _)) (pw_or1 (pt_cmpR op_eq (pe_fld (pv 0) rfl) pe_int (nomark _)))))
        (pss_one (ps_raise rfl (takes_of rfl rfl rfl rfl) (pmk_oex T.oex T.oexI T.oexT (ok_bt_init T) hr T.b_bt_init .nil pass0 (by rfl) T.g_BadText (pa_cons (pv 1) (pa_cons pe_int pa_nil))))) pss_nil))
      (PSs.nox (pss_cons (ps_set (i := 2) nd rfl (Or.inl rfl) (pe_lst pa_nil))
      (pss_cons (ps_for PassesOwn.never rfl (pi_list (pe_fld (pv 0) rfl)) (pg_tup rfl (pgs_cons (pg_name (i := 3) nd rfl (Or.inl rfl)) (pgs_cons (pg_name (i := 4) nd rfl (Or.inl rfl)) pgs_nil)))
        (pss_one (ps_expr (pe_bm PySem.F.plainAttrs_list PySem.F.slot_list_append PySem.F.type_list_append mt_append (pv 2) (pa_cons (pe_tup (pa_cons (pv 3) (pa_cons
          (pe_callTy (call_tupK (K := K) rfl) (by rfl) T.f_tuple boot_tuple' (pa_cons (pe_lc (own := [("house", 5), ("worth", 6), ("holdings", 7)]) (g := gTup K 3 (gCons (gName 5) (gCons (gName 6) (gCons (gName 7) gNil)))) (tt := tYes) rfl nd (pi_list (pv 4)) (blkOk_by (N := N_r_whole_county) (sc := defScope s_r_whole_county) (by decide +kernel))
            (fun _ _ _ _ _ => pg_tup rfl (pgs_cons (pg_name (i := 5) nd rfl (Or.inl rfl)) (pgs_cons (pg_name (i := 6) nd rfl (Or.inl rfl)) (pgs_cons (pg_name (i := 7) nd rfl (Or.inl rfl)) pgs_nil)))) (fun _ _ _ _ _ => pts_nil)
            (fun _ _ _ _ _ => pe_tup (pa_cons (pv 5) (pa_cons (pv 6) (pa_cons (pe_callTy (call_tupK (K := K) rfl) (by rfl) T.f_tuple boot_tuple' (pa_cons (pv 7) pa_nil)) pa_nil))))) pa_nil)) pa_nil))) pa_nil)))))
      (pss_one (ps_ret (pe_callTy (call_tupK (K := K) rfl) (by rfl) T.f_tuple boot_tuple' (pa_cons (pv 2) pa_nil))))))), ?_⟩
    obtain ⟨c0, hc0⟩ : ∃ c0, st.cur = some c0 := by
      cases hc : st.cur with
      | none => exact absurd hc hcur
      | some c => exact ⟨c, rfl⟩
    obtain ⟨fs, a, L, us, hF, ha, hL, _, _, elen, _⟩ := S.addH hc0
    have esh : st.short = (c0.houses.isEmpty || decide (st.worth = 0)) := by
      unfold Rl.short
      rw [hc0]
    have raise : ∀ {H' : Hp}, Same H H' → st.short = true → tMkO (He.ga K "BadText") (spBt K) [] (tCons (tVar 1) (tCons (tC (.int 1)) tNil)) [some (.ref r), some (.int n), none, none, none, none, none, none] H' fun cls d H' => E cls d H' := fun {H'} k c => by
      refine ⟨_, rfl, (by show 2 ≤ 1000; decide), fun a ha => ?_⟩
      refine ⟨a, _, _, rfl, upd_same, fun d hd hne => ⟨rfl, d, _, by rw [upd_ne (Ne.symm hne)]; exact upd_same, upd_same, ?_, ?_⟩⟩
      · rw [upd_ne hne] at hd
        exact hd
      · refine e c _ d (fun b o eb => ?_) upd_same
        have hda : H' d = none := by
          rw [upd_ne hne] at hd
          exact hd
        have eb := k b o (S.zh b o eb)
        have nd : b ≠ d := ne_of_none eb hda
        have na : b ≠ a := ne_of_none eb ha
        rw [upd_ne nd, del_ne na, upd_ne nd, upd_ne na, upd_ne nd, upd_ne na]
        exact eb
    refine ⟨fun σ H1 => σ = [some (.ref r), some (.int n), none, none, none, none, none, none] ∧ Same H H1 ∧ st.short = false, ?_, ?_⟩
    · refine ⟨_, rfl, r, _, dxr, _, _, rfl, hrr, T.c_Rolls, T.na_Rolls_found, rf_found _ _ _ _, _, rfl, F, _, _, _, rfl, rfl, SqL.of hF, atI_last _ _, a, _, _, _, rfl, rfl, SqT.of ha, atI_nat (j := 1) rfl, Nat.zero_le _, fun e1 ne1 => ?_⟩
      have s1 : Same H (upd H e1 (.lst [])) := Same.new ne1
      refine ⟨L, e1, us, rfl, rfl, SqL.of (s1 _ _ hL), SqL.of upd_same, _, rfl, ?_⟩
      rw [show (if false then !us.isEmpty else us.isEmpty) = c0.houses.isEmpty from empty_len elen]
      refine iteB (fun c1 => ?_) (fun c1 => ?_)
      · exact raise s1 (by rw [esh, c1]; rfl)
      · refine ⟨_, rfl, r, _, dxr, _, _, rfl, s1 _ _ hrr, T.c_Rolls, T.na_Rolls_worth_told, rf_w _ _ _ _, rfl, _, rfl, iteD (fun c2 => ?_) (fun c2 => ?_)⟩
        · exact raise s1 (by rw [esh, decide_eq_true (V.int.inj c2), Bool.or_true])
        · exact ⟨rfl, s1, by rw [esh, c1, decide_eq_false (fun z => c2 (congrArg V.int z))]; rfl⟩
    · rintro σ H1 ⟨rfl, s1, hsh⟩
      obtain ⟨fs2, hF2, hco⟩ := S.co
      have hco := hco.mono (ParAt.mono (hide_same _ _))
      refine ⟨Nat.zero_le _, fun R nR => ?_⟩
      refine ⟨_, rfl, r, _, dxr, _, _, rfl, (Same.new nR) _ _ (s1 _ _ hrr), T.c_Rolls, T.na_Rolls_found, rf_found _ _ _ _, F, rfl, ⟨_, SqL.of ((Same.new nR) _ _ (s1 _ _ hF2))⟩, for_list (K := K) (a := F) (xs := fs2)
        (fun i σ H' => ∃ o3 o4, σ = [some (.ref r), some (.int n), some (.ref R), o3, o4, none, none, none] ∧ LT OPar H1 H' R (st.all.take i)) ⟨none, none, rfl, LT.nil nR⟩ (fun i σ H' _ ⟨_, _, _, t⟩ => SqL.of (t.same _ _ (s1 _ _ hF2))) ?_ ?_⟩
      · rintro i x σ H' hx ⟨o3, o4, rfl, t⟩
        obtain ⟨p, hp, b, L, us, rfl, hb, hL, hus⟩ := hco.get hx
        have k0 : Same H H' := s1.trans t.same
        refine ⟨b, _, rfl, SqT.of (k0 _ _ hb), rfl, _, _, rfl, _, _, rfl, rfl, ?_⟩
        obtain ⟨acc0, hR0, qa0⟩ := t.at_
        have hi : i < st.all.length := (List.getElem?_eq_some_iff.mp hp).1
        refine ⟨_, rfl, .inl ⟨rfl, _, SqL.of hR0⟩, _, rfl, _, rfl, L, rfl, ⟨us, SqL.of (k0 _ _ hL)⟩, fun D nD => lc_T (HouseAt .tup H) OHouse ohouseT nD (SqL.of (k0 _ _ hL)) hus ?_ ?_ ?_⟩
        · have := (W.each p (List.mem_of_getElem? hp)).2.1
          exact Nat.le_of_lt (sz (Nat.le_trans this (by decide)))
        · rintro x g Hc N ⟨a', G, ws, rfl, h1, h2, h3⟩ _ kc hN
          have k1 := k0.trans kc
          refine ⟨a', _, rfl, SqT.of (k1 _ _ h1), rfl, _, _, rfl, _, _, rfl, _, _, rfl, rfl, rfl, _, rfl, _, rfl, _, rfl, G, ws, rfl, .inl ⟨SqL.of (k1 _ _ h2), fun c nc => ⟨(by show 3 ≤ sizeLine; decide), fun t' nt => ?_⟩⟩⟩
          obtain ⟨ntc, nt'⟩ := new_upd nt
          have k2 : Same Hc (upd (upd Hc c (.tup ws)) t' (.tup [.str g.1, .int g.2.1, .ref c])) := (Same.new nc).trans (Same.new nt)
          exact hN _ _ k2 ⟨t', c, ws, rfl, upd_same, by rw [upd_ne (Ne.symm ntc), upd_same], h3.mono (HeldAt.mono (k1.trans k2))⟩
        · intro H2 acc k2 hD hacc
          refine ⟨D, acc, rfl, .inl ⟨SqL.of hD, fun c nc => ⟨(by show 2 ≤ sizeLine; decide), fun t' nt => ?_⟩⟩⟩
          obtain ⟨ntc, nt'⟩ := new_upd nt
          have k3 : Same H2 (upd (upd H2 c (.tup acc)) t' (.tup [.str p.1, .ref c])) := (Same.new nc).trans (Same.new nt)
          refine ⟨R, acc0, _, rfl, rfl, k3 _ _ (k2 _ _ hR0), sz (by rw [qa0.length, List.length_take]; have := W.few; omega), ?_⟩
          refine ⟨_, _, rfl, ?_⟩
          rw [take_succ' hp]
          exact LT.step oparT nR t hR0 (k2.trans k3) ⟨t', c, acc, rfl, upd_same, by rw [upd_ne (Ne.symm ntc), upd_same], hacc.mono (ohouseT _ _ (Same.tups k3))⟩
      · rintro σ H' ⟨o3, o4, rfl, t⟩
        rw [hco.length, List.take_length] at t
        obtain ⟨acc, hR, qa⟩ := t.at_
        refine ⟨_, rfl, R, acc, rfl, .inl ⟨SqL.of hR, fun c nc => ?_⟩⟩
        exact q hsh c _ (S.zh.trans (s1.trans (t.same.trans (Same.new nc)))) ⟨acc, upd_same, qa.mono (oparT _ _ (Same.tups (Same.new nc)))⟩
end
end Pr
end

section
set_option Elab.async false
set_option linter.all false
set_option maxRecDepth 100000
set_option maxHeartbeats 4000000
/-! read_county. -/
namespace Pr
open PySem L2
section
variable {P : Program} {w : World} {K : PySem.W.Frag} {mg : Str → Option Value} {base : Heap}
/-- no text -/
def NoTxt (K : PySem.W.Frag) (H : Hp) (v : V) : Prop := ∃ n : String, TyX K H v (.type n) ∧ kitB n "str" = some false
theorem lines_short {z : Str} (h : z.length ≤ 1000000) : (linesOf z).length ≤ 1000002 ∧ ∀ l ∈ linesOf z, l.length ≤ 1000000 := by
  have a := PyProof.Rows.split_le z "\n"
  exact ⟨by unfold linesOf; omega, fun l hl => Nat.le_trans (split_each z "\n" l hl) h⟩
theorem words_short {z : Str} (h : z.length ≤ 1000000) : short (wordsOf z) := by
  have a := PyProof.Rows.split_le z " "
  exact ⟨by unfold wordsOf; omega, fun l hl => Nat.le_trans (split_each z " " l hl) h⟩
theorem take_cur {st st' : Rl} {ws : List Str} (h : takeLine st ws = .ok st') : st'.cur ≠ none := by
  unfold takeLine at h
  split at h
  · unfold takeP at h
    split at h
    · split at h
      · cases h
        intro z
        cases z
      · cases h
    · cases h
  · split at h
    · rename_i c
      unfold takeH at h
      split at h
      · split at h
        · cases h
        · split at h
          · cases h
            have c2 := c.2
            unfold Rl.canH at c2
            unfold Rl.addH
            split at c2
            · cases c2
            · rename_i cu hcu
              intro z
              cases z
          · cases h
      · cases h
    · split at h
      · rename_i c
        unfold takeG at h
        split at h
        · split at h
          · cases h
          · split at h
            · cases h
            · split at h
              · cases h
                have c2 := c.2
                unfold Rl.canG at c2
                unfold Rl.addG
                split at c2
                · rename_i pn hd x hcu
                  intro z
                  cases z
                · cases c2
              · cases h
        · cases h
      · cases h
/-- a raise of BadText(x, y) -/
theorem raise_bt {H H' : Hp} {n k : Int} {E : XK} {σ : L2.St} {ta : TA} (e : RefZ (He.ga K "BadText") H E n k) (s : Same H H') (h : ∀ N : List V → Hp → Prop, (∀ H2, Same H' H2 → N [.int n, .int k] H2) → ta σ H' N) : tMkO (He.ga K "BadText") (spBt K) [] ta σ H' fun cls d H' => E cls d H' := by
  refine h _ fun H2 s2 => ⟨(by show 2 ≤ 1000; decide), fun a ha => ?_⟩
  refine ⟨a, _, _, rfl, upd_same, fun d hd hne => ⟨rfl, d, _, by rw [upd_ne (Ne.symm hne)]; exact upd_same, upd_same, ?_, ?_⟩⟩
  · rw [upd_ne hne] at hd
    exact hd
  · refine e _ d (fun b o eb => ?_) upd_same
    have hda : H2 d = none := by
      rw [upd_ne hne] at hd
      exact hd
    have eb := s2 b o (s b o eb)
    have nd : b ≠ d := ne_of_none eb hda
    have na : b ≠ a := ne_of_none eb ha
    rw [upd_ne nd, del_ne na, upd_ne nd, upd_ne na, upd_ne nd, upd_ne na]
    exact eb
def spRead (K : PySem.W.Frag) : Sp := fun vs H Q E => ∃ v : V, vs = [v] ∧ ((NoTxt K H v ∧ RefZ (He.ga K "BadText") H E 0 0) ∨ ∃ z : Str, v = .str z ∧ z.length ≤ 1000000 ∧ (∀ n k : Nat, readC z = .error (n, k) → RefZ (He.ga K "BadText") H E (n : Int) (k : Int)) ∧
  (∀ ps, readC z = .ok ps → ∀ p H', Same H H' → OCo H' p ps → Q (.ref p) H'))
theorem ok_read_county (T : Txt K mg) : FnOk P w K mg base (L2.CX P w) 8 (a_read_county K) (fdOf K (a_read_county K)) P_read_county (spRead K) := by
  refine T.F_read_county.ok sc_read_county (fun vs H Q E h => ?_) (fun cdv A outer s H vs Q E hr h => ?_)
  · obtain ⟨v, rfl, _⟩ := h
    rfl
  · obtain ⟨v, rfl, h⟩ := h
    have nd := sc_read_county.nd
    refine ⟨_, pss_cons (ps_if (pt_not (pt_val (pe_callB call_isi (by rfl) T.f_isinstance boot_isi (pa_cons (pv 0) (pa_cons (pe_bltn (v := .ty "str") (by rfl) T.f_str boot_str' rfl) pa_nil)))))
        (pss_one (ps_raise rfl (takes_of rfl rfl rfl rfl) (pmk_oex T.oex T.oexI T.oexT (ok_bt_init T) (hr.mono (by decide)) T.b_bt_init .nil pass0 (by rfl) T.g_BadText (pa_cons pe_int (pa_cons pe_int pa_nil))))) pss_nil)
      (pss_cons (ps_par (i := 1) (j := 2) (by rfl) nd rfl rfl (by decide) rfl rfl (pa_cons (pe_make0 T.mk_Rolls (ok_r_init T) (hr.mono (by decide)) (by rfl) T.g_Rolls T.b_r_init .nil (E := E0) pass0) (pa_cons (pe_split (pv 0) pe_str) pa_nil)) (by rfl))
      (pss_cons (ps_for (passes_of rfl) rfl (pi_enum (by rfl) T.f_enumerate (pa_cons (pv 2) pa_nil)) (pg_tup rfl (pgs_cons (pg_name (i := 3) nd rfl (Or.inl rfl)) (pgs_cons (pg_name (i := 4) nd rfl (Or.inl rfl)) pgs_nil)))
        (pss_cons (ps_set (i := 5) nd rfl (Or.inl rfl) (pe_call (ok_words_of T) (hr.mono (by decide)) (by rfl) T.g_words_of (T.F_words_of).kp T.b_words_of .nil (E := E0) pass0 (pa_cons (pv 4) pa_nil)))
        (pss_cons (ps_if (pt_cmpR op_isN (pv 5) pe_non (nomark _)) (pss_one (ps_raise rfl (takes_of rfl rfl rfl rfl) (pmk_oex T.oex T.oexI T.oexT (ok_bt_init T) (hr.mono (by decide)) T.b_bt_init .nil pass0 (by rfl) T.g_BadText (pa_cons (pe_op op_add (pv 3) pe_int) (pa_cons pe_int pa_nil))))) pss_nil)
        (pss_one (ps_expr (pe_meth (pv 1) T.c_Rolls T.m_Rolls_take (ok_r_take T) hr T.b_r_take .nil (passX (takes_of rfl rfl rfl rfl)) (pa_cons (pe_make T.mk_Line (ok_n_init T) (hr.mono (by decide)) (by rfl) T.g_Line T.b_n_init .nil (E := E0) pass0 (pa_cons (pv 5) (pa_cons (pe_op op_add (pv 3) pe_int) pa_nil))) pa_nil)))))))
      (pss_one (ps_ret (pe_meth (pv 1) T.c_Rolls T.m_Rolls_whole_county (ok_r_whole_county T) (hr.mono (by decide)) T.b_r_whole_county .nil (passX (takes_of rfl rfl rfl rfl)) (pa_cons (pe_op op_add (pe_callB call_len_seq (by rfl) T.f_len PySem.boot_len (pa_cons (pv 2) pa_nil)) pe_int) pa_nil)))))), ?_⟩
    rcases h with ⟨⟨nm, ty, hk⟩, e⟩ | ⟨z, rfl, hz, e, q⟩
    · exact ⟨_, rfl, _, _, _, _, false, rfl, .ty "str", ty, kit_ty hk, false, rfl, iteT (raise_bt e (Same.refl H) fun N hN => hN H (Same.refl H))⟩
    · obtain ⟨hll, hle⟩ := lines_short hz
      refine ⟨_, rfl, _, _, _, _, true, rfl, .ty "str", .base (.str z), kit_ty (by decide +kernel), true, rfl, iteF ?_⟩
      intro r dx nr ndx nex
      refine ⟨r, dx, H, rfl, upd_same, fun b u eb => by rw [upd_ne (ne_of_none eb nr), upd_ne (ne_of_none eb ndx)]; exact eb, nr, fun H1 R1 => ⟨rfl, ?_⟩⟩
      refine ⟨_, rfl, ⟨z, rfl⟩, z, "\n", rfl, rfl, by decide +kernel, by rw [sizeLine_eq]; omega, fun p np => ⟨_, _, rfl, ?_⟩⟩
      have R2 : RAt K (upd H p (.lst ((linesOf z).map V.str))) (upd H1 p (.lst ((linesOf z).map V.str))) r [] Rl.empty := R1.grow np (Same.new np) upd_same
      have zH : Same H (upd H p (.lst ((linesOf z).map V.str))) := Same.new (R1.zh.free np)
      refine ⟨_, rfl, p, _, rfl, SqL.of upd_same, for_it walk_enum (fun i σ H' => ∃ o3 o4 o5 Z st, σ = [some (.str z), some (.ref r), some (.ref p), o3, o4, o5] ∧ Same (upd H p (.lst ((linesOf z).map V.str))) Z ∧ RAt K Z H' r [] st ∧ st.Wf ∧
          readLines (linesOf z) 0 Rl.empty = readLines ((linesOf z).drop i) i st ∧ (0 < i → st.cur ≠ none))
        ⟨none, none, none, _, _, rfl, Same.refl _, R2, Rl.wf_empty, rfl, fun c => absurd c (by decide)⟩ (fun i σ H' _ ⟨_, _, _, Z, st, _, s, R, _⟩ => SqL.of (R.zh _ _ (s _ _ upd_same))) ?_ ?_⟩
      · rintro i x σ H2 H3 hi ⟨o3, o4, o5, Z, st, rfl, zz, R, W, er, _⟩ ⟨t, xi, xl, rfl, nt, rfl, exi, exl⟩
        have s3 : Same H2 (upd H2 t (.tup [xi, xl])) := Same.new nt
        cases exi
        obtain ⟨ln, hln, rfl⟩ : ∃ ln, (linesOf z)[i]? = some ln ∧ xl = V.str ln := by
          have exl : ((linesOf z).map V.str)[i]? = some xl := exl
          rw [List.getElem?_map] at exl
          cases q : (linesOf z)[i]? with
          | none => rw [q] at exl; cases exl
          | some u =>
            rw [q] at exl
            exact ⟨u, rfl, (Option.some.inj exl).symm⟩
        have hil : i < (linesOf z).length := (List.getElem?_eq_some_iff.mp hln).1
        have edrop : (linesOf z).drop i = ln :: (linesOf z).drop (i + 1) := by
          rw [List.drop_eq_getElem_cons hil]
          congr 1
          exact (List.getElem?_eq_some_iff.mp hln).2
        have hlen : ln.length ≤ 1000000 := hle ln (List.mem_of_getElem? hln)
        have zb : Same H Z := zH.trans zz
        refine ⟨t, _, rfl, SqT.of upd_same, rfl, _, _, rfl, _, _, rfl, rfl, ?_⟩
        refine ⟨_, rfl, ln, rfl, hlen, fun he H4 s4 => ?_, fun hne pw npw => ?_⟩
        · refine ⟨_, rfl, rfl, _, rfl, iteT ?_⟩
          have rr : readC z = .error (i + 1, 0) := by
            unfold readC
            rw [er, edrop]
            unfold readLines
            rw [if_pos he]
          refine raise_bt (e _ _ rr) (zb.trans ((R.zh.trans s3).trans s4)) fun N hN => ?_
          refine ⟨_, rfl, _, _, rfl, rfl, ?_⟩
          exact hN _ (Same.refl _)
        · refine ⟨_, rfl, rfl, _, rfl, iteF ?_⟩
          have s4 : Same (upd H2 t (.tup [.int i, .str ln])) (upd (upd H2 t (.tup [.int i, .str ln])) pw (.lst ((wordsOf ln).map V.str))) := Same.new npw
          have R3 : RAt K (upd Z pw (.lst ((wordsOf ln).map V.str))) (upd (upd H2 t (.tup [.int i, .str ln])) pw (.lst ((wordsOf ln).map V.str))) r [] st := (R.same s3).grow npw s4 upd_same
          obtain ⟨dxr, F, Pn, Nn, hrr, hrest⟩ := id R3
          refine ⟨_, rfl, r, dxr, _, rfl, hrr, rf_no _ _ _ _ (by decide +kernel) (by decide +kernel) (by decide +kernel) (by decide +kernel), ?_⟩
          refine ⟨_, rfl, _, rfl, _, _, rfl, rfl, ?_⟩
          intro l dxl nl ndl nel
          obtain ⟨H5, e5⟩ : ∃ H5, H5 = upd (upd (upd H2 t (.tup [.int i, .str ln])) pw (.lst ((wordsOf ln).map V.str))) dxl (.own l) := ⟨_, rfl⟩
          rw [← e5]
          have s5 : Same (upd (upd H2 t (.tup [.int i, .str ln])) pw (.lst ((wordsOf ln).map V.str))) H5 := by
            rw [e5]
            exact Same.new ndl
          have nl5 : H5 l = none := by
            rw [e5, upd_ne (Ne.symm nel)]
            exact nl
          refine ⟨l, dxl, pw, _, rfl, upd_same, fun H6 s6 hl6 => ⟨rfl, ?_⟩⟩
          have s7 : Same H5 H6 := fun b u eb => s6 b u (ne_of_none eb nl5) ((Same.new nl5) b u eb)
          have R4 := (R3.same s5).avoid nl5 s7 (some_ne hl6)
          have Rz := R4.zh
          refine ⟨r, l, dxl, pw, upd Z pw (.lst ((wordsOf ln).map V.str)), _, wordsOf ln, st, rfl, ⟨R4, hl6, upd_same, words_short hlen, W⟩, fun k hk => ?_, fun st' hk Z' H' zz' R' => ?_⟩
          · have rr : readC z = .error (i + 1, k + 1) := by
              unfold readC
              rw [er, edrop]
              unfold readLines
              rw [if_neg hne, hk]
            have := e _ _ rr
            have zc : Same H (upd Z pw (.lst ((wordsOf ln).map V.str))) := zb.trans (Same.new (R.zh.free ((s3.free npw))))
            exact (e _ _ rr).le zc
          · refine ⟨_, _, _, Z', st', rfl, (zz.trans (Same.new (R.zh.free (s3.free npw)))).trans zz', R'.drop, wf_takeLine W hk, ?_, fun _ => take_cur hk⟩
            rw [er, edrop]
            show (if ("" : Str) ∈ wordsOf ln then _ else match takeLine st (wordsOf ln) with | .error k => _ | .ok st' => _) = _
            rw [if_neg hne, hk]
      · rintro σ H2 ⟨o3, o4, o5, Z, st, rfl, zz, R, W, er, hcur⟩
        rw [List.length_map, List.drop_length] at er
        have hpos := PyProof.Rows.split_pos z "\n"
        have hc := hcur (by rw [List.length_map]; exact hpos)
        obtain ⟨dxr, F, Pn, Nn, hrr, hrest⟩ := id R
        have hp2 := R.zh _ _ (zz _ _ upd_same)
        refine ⟨_, rfl, r, dxr, _, rfl, hrr, rf_no _ _ _ _ (by decide +kernel) (by decide +kernel) (by decide +kernel) (by decide +kernel), _, rfl, p, _, rfl, .inl (SqL.of hp2), _, _, rfl, rfl, ?_⟩
        have er : readLines (linesOf z) 0 Rl.empty = .ok st := er
        refine ⟨r, Z, _, st, rfl, R, W, hc, fun hs => ?_, fun hs p' H' s' o => ?_⟩
        · have rr : readC z = .error ((linesOf z).length + 1, 1) := by
            unfold readC
            rw [er]
            show (if st.short = true then _ else _) = _
            rw [if_pos hs]
          rw [List.length_map]
          exact (e _ _ rr).le (zH.trans zz)
        · have rr : readC z = .ok st.all := by
            unfold readC
            rw [er]
            show (if st.short = true then _ else _) = _
            rw [if_neg (by rw [hs]; exact Bool.false_ne_true)]
          exact q _ rr p' H' ((zH.trans zz).trans s') o
end
end Pr
end

section
set_option Elab.async false
set_option linter.all false
set_option maxRecDepth 100000
set_option maxHeartbeats 4000000
/-! The law's own reader: names, numbers, a holding's line. -/
namespace Pr
open PySem L2
section
variable {P : Program} {w : World} {K : PySem.W.Frag} {mg : Str → Option Value} {base : Heap}
theorem filter_bad (xs S : List Nat) : (xs.filter fun c => !decide (c ∈ S)).isEmpty = xs.all fun c => decide (c ∈ S) := by
  induction xs with
  | nil => rfl
  | cons x r ih =>
    rw [List.filter_cons, List.all_cons]
    by_cases h : x ∈ S
    · rw [decide_eq_true h]
      exact ih
    · rw [decide_eq_false h]
      rfl
theorem map_empty {α β : Type} (f : α → β) (xs : List α) : (xs.map f).isEmpty = xs.isEmpty := by
  cases xs <;> rfl
theorem iteD2 {p A B : Prop} [Decidable p] (h1 : p → A) (h2 : ¬ p → B) : if decide p = true then A else B := iteD h1 h2
def rNis : R2 := fun x y H Q => ∃ (c : Nat) (z : Str), x = .str ⟨#[c]⟩ ∧ y = .str z ∧ Q (.bl (!decide (c ∈ z.cps.toList))) H
theorem ok_l_is_name (T : Txt K mg) : FnOk P w K mg base L2.CX0 1 (a_l_is_name K) (fdOf K (a_l_is_name K)) P_l_is_name spName := by
  refine T.F_l_is_name.ok sc_l_is_name (fun vs H Q E h => ?_) (fun cdv A outer s H vs Q E hr h => ?_)
  · obtain ⟨z, rfl, _⟩ := h
    rfl
  · obtain ⟨z, rfl, hz, k⟩ := h
    have hu := hu_of hr
    have nd := sc_l_is_name.nd
    refine ⟨_, PSs.nox (pss_cons (ps_set (i := 1) nd rfl (Or.inr rfl) pe_str)
      (pss_cons (ps_if (PW.pt (pw_or (pt_not (pt_val (pe_callB call_isi (by rfl) T.f_isinstance boot_isi (pa_cons (pv 0) (pa_cons (pe_bltn (v := .ty "str") (by rfl) T.f_str boot_str' rfl) pa_nil)))))
        (pw_or (pt_not (pt_chain op_le op_le pe_int (pe_callB call_len_str (by rfl) T.f_len PySem.boot_len (pa_cons (pv 0) pa_nil)) pe_int))
          (pw_or1 (pt_cmpR op_in_seq (pv 0) (pe_tup (pa_cons pe_str (pa_cons pe_str (pa_cons pe_str pa_nil)))) (by rfl))))))
        (pss_one (ps_ret pe_bl)) pss_nil)
      (pss_one (ps_ret (pe_cmpR (op_eqN (Nat.lt_of_succ_lt hu)) (pe_lc (own := [("_law_sign", 2)]) (g := gName 2) (tt := tTest (tOp rNis (tVar 2) (tVar 1))) rfl nd (pi_str (pv 0)) (blkOk_by (N := N_l_is_name) (sc := defScope s_l_is_name) (by decide +kernel))
        (fun _ _ _ _ _ => pg_name (i := 2) nd rfl (Or.inl rfl)) (fun _ _ _ _ _ => pts_one (pt_cmpR op_notIn_sign (pv 2) (pv 1) (by rfl)))
        (fun _ _ _ _ _ => pv 2)) (pe_lst pa_nil) (nomark _)))))), ?_⟩
    have hline : z.length ≤ sizeLine := Nat.le_trans hz (by rw [sizeLine_eq]; decide)
    refine ⟨_, rfl, _, _, _, _, true, rfl, .ty "str", .base (.str z), kit_ty (by decide +kernel), true, rfl, iteF ?_⟩
    refine ⟨_, rfl, z, rfl, hline, _, _, rfl, rfl, _, rfl, ite2 (fun c1 => ?_) (fun c1 => ?_)⟩
    · have c1 := of_decide_eq_true c1
      refine ⟨_, _, rfl, rfl, _, rfl, iteDN (fun c2 => ?_) (fun c2 => ?_)⟩
      · have e : isNm z = false := by unfold isNm; rw [decide_eq_false c2]; simp
        rw [e] at k
        exact k H (Same.refl H)
      · refine ⟨_, rfl, (by show 3 ≤ sizeLine; decide), fun p np => ⟨p, _, rfl, .inr (SqT.of upd_same), rfl, rfl, _, rfl, ?_⟩⟩
        have s1 : Same H (upd H p (.tup [.str "parish", .str "house", .str "held"])) := Same.new np
        have eb : inV (.str z) [.str "parish", .str "house", .str "held"] = decide (z ∈ barred) := inV_strs z barred
        rw [show (if false then !inV (V.str z) [V.str "parish", .str "house", .str "held"] else inV (.str z) [.str "parish", .str "house", .str "held"]) = decide (z ∈ barred) from eb]
        refine iteD (fun c3 => ?_) (fun c3 => ?_)
        · have e : isNm z = false := by unfold isNm; rw [decide_eq_true c3]; simp
          rw [e] at k
          exact k _ s1
        · have e : isNm z = z.cps.toList.all fun c => decide (c ∈ letters) := by unfold isNm; rw [decide_eq_true c1, decide_eq_true c2, decide_eq_false c3]; rfl
          rw [e] at k
          refine ⟨_, rfl, z, rfl, fun D hD => lc_sel z.cps.toList sgn (fun c => !decide (c ∈ letters)) sgn (walk_text z) (by rw [Array.length_toList]; exact hline) (yat_text z) (fun _ => True.intro) (fun c acc N hc hl hy hn => ?_) ?_⟩
          · refine ⟨rfl, _, rfl, _, rfl, c, _, rfl, rfl, _, rfl, ?_⟩
            refine iteBN (fun c5 => ?_) (fun c5 => ?_)
            · exact ⟨_, rfl, acc, upd_same, hl, by rw [upd_upd]; exact hy (by rw [show decide (c ∈ letters) = false from c5]; rfl)⟩
            · exact hn (by rw [show decide (c ∈ letters) = true from c5]; rfl)
          · refine ⟨Nat.zero_le _, fun q nq => ?_⟩
            have s2 : Same _ (upd (upd (upd H p (.tup [.str "parish", .str "house", .str "held"])) D (.lst ((z.cps.toList.filter fun c => !decide (c ∈ letters)).map sgn))) q (.lst [])) := Same.new nq
            refine ⟨D, q, _, rfl, rfl, SqL.of (s2 _ _ upd_same), SqL.of upd_same, ?_⟩
            rw [show (if false then !((z.cps.toList.filter fun c => !decide (c ∈ letters)).map sgn).isEmpty else ((z.cps.toList.filter fun c => !decide (c ∈ letters)).map sgn).isEmpty) = z.cps.toList.all fun c => decide (c ∈ letters) from (map_empty _ _).trans (filter_bad _ _)]
            exact k _ ((s1.trans (Same.new hD)).trans s2)
    · have c1 : ¬ (1 ≤ (z.length : Int)) := fun q => c1 (decide_eq_true q)
      have e : isNm z = false := by unfold isNm; rw [decide_eq_false c1]; rfl
      rw [e] at k
      exact ⟨_, rfl, iteT (k H (Same.refl H))⟩
/-- the number at a place of the words -/
def spLNum : Sp := fun vs H Q _ => ∃ (wl : Addr) (k : Nat) (lo hi : Int) (ws : List Str), vs = [.ref wl, .int k, .int lo, .int hi] ∧ H wl = some (.lst (ws.map V.str)) ∧ short ws ∧ ∀ H', Same H H' → Q (numV (numIn (wd ws k) lo hi)) H'
theorem ok_l_number_in (T : Txt K mg) : FnOk P w K mg base L2.CX0 1 (a_l_number_in K) (fdOf K (a_l_number_in K)) P_l_number_in spLNum := by
  refine T.F_l_number_in.ok sc_l_number_in (fun vs H Q E h => ?_) (fun cdv A outer s H vs Q E hr h => ?_)
  · obtain ⟨wl, k, lo, hi, ws, rfl, _⟩ := h
    rfl
  · obtain ⟨wl, kk, lo, hi, ws, rfl, hw, sh, k⟩ := h
    have hu := hu_of hr
    have nd := sc_l_number_in.nd
    refine ⟨_, PSs.nox (pss_cons (ps_set (i := 4) nd rfl (Or.inl rfl) (pe_cut (pe_ifExp (pt_cmpR op_lt (pv 1) (pe_callB call_len_seq (by rfl) T.f_len PySem.boot_len (pa_cons (pv 0) pa_nil)) (nomark _)) (pe_ix ix_list (pv 0) (pv 1) (fun _ _ => rfl)) pe_str)))
      (pss_cons (ps_if (PW.pt (pw_or (pt_not (pt_chain op_le op_le pe_int (pe_callB call_len_str (by rfl) T.f_len PySem.boot_len (pa_cons (pv 4) pa_nil)) pe_int))
          (pw_or1 (pt_cmpR (op_neN (Nat.lt_of_succ_lt hu)) (pe_lc (own := [("_law_sign", 5)]) (g := gName 5) (tt := tTest (tOp rNis (tVar 5) (tC (.str "0123456789")))) rfl nd (pi_str (pv 4)) (blkOk_by (N := N_l_number_in) (sc := defScope s_l_number_in) (by decide +kernel))
            (fun _ _ _ _ _ => pg_name (i := 5) nd rfl (Or.inl rfl)) (fun _ _ _ _ _ => pts_one (pt_cmpR op_notIn_sign (pv 5) pe_str (by rfl)))
            (fun _ _ _ _ _ => pv 5)) (pe_lst pa_nil) (nomark _)))))
        (pss_one (ps_ret pe_non)) pss_nil)
      (pss_cons (ps_if (PW.pt (pw_and (pt_cmpR op_eq (pe_ix ix_str (pv 4) pe_int (fun _ _ => rfl)) pe_str (nomark _)) (pw_and1 (pt_cmpR op_ne (pv 4) pe_str (nomark _))))) (pss_one (ps_ret pe_non)) pss_nil)
      (pss_one (ps_ret (pe_ifExp (pt_chain op_le op_le (pv 2) (pe_callTy call_int_str (by rfl) T.f_int boot_int' (pa_cons (pv 4) pa_nil)) (pv 3)) (pe_callTy call_int_str (by rfl) T.f_int boot_int' (pa_cons (pv 4) pa_nil)) pe_non)))))), ?_⟩
    refine ⟨fun v H1 => v = .str (wd ws kk) ∧ H1 = H, ?_, ?_⟩
    · refine ⟨_, rfl, _, rfl, wl, _, rfl, .inl (SqL.of hw), _, _, rfl, rfl, _, rfl, iteD (fun c => ?_) (fun c => ?_)⟩
      · have c : kk < ws.length := by
          rw [List.length_map] at c
          omega
        refine ⟨_, rfl, _, rfl, wl, _, _, _, rfl, rfl, SqL.of hw, atI_map ws kk (List.getElem?_eq_getElem c), ?_, rfl⟩
        unfold wd
        rw [List.getElem?_eq_getElem c]
        rfl
      · have c : ws.length ≤ kk := by
          rw [List.length_map] at c
          omega
        refine ⟨?_, rfl⟩
        unfold wd
        rw [List.getElem?_eq_none c]
        rfl
    · rintro v H1 ⟨rfl, rfl⟩
      have hz := wd_short sh kk
      generalize wd ws kk = z at hz k
      have hline : z.length ≤ sizeLine := Nat.le_trans hz (by rw [sizeLine_eq]; decide)
      refine ⟨_, rfl, z, rfl, hline, _, _, rfl, rfl, _, rfl, ite2 (fun c1 => ?_) (fun c1 => ?_)⟩
      · have c1 := of_decide_eq_true c1
        refine ⟨_, _, rfl, rfl, _, rfl, iteDN (fun c2 => ?_) (fun c2 => ?_)⟩
        · have e : numIn z lo hi = none := by unfold numIn numOf; rw [decide_eq_false c2, Bool.and_false, if_neg Bool.false_ne_true]
          rw [e] at k
          exact k _ (Same.refl _)
        · have e0 : numOf z = if (z.cps.toList.all fun c => decide (c ∈ figures)) = true then if z.cps.toList.head? = some 48 ∧ z ≠ ("0" : Str) then none else some ((NumText.digitsVal z.cps.toList : Nat) : Int) else none := by
            unfold numOf
            rw [decide_eq_true c1, decide_eq_true c2]
            rfl
          refine ⟨_, rfl, z, rfl, fun D hD => lc_sel z.cps.toList sgn (fun c => !decide (c ∈ figures)) sgn (walk_text z) (by rw [Array.length_toList]; exact hline) (yat_text z) (fun _ => True.intro) (fun c acc N hc hl hy hn => ?_) ?_⟩
          · refine ⟨rfl, _, rfl, c, _, rfl, rfl, _, rfl, ?_⟩
            refine iteBN (fun c5 => ?_) (fun c5 => ?_)
            · exact ⟨_, rfl, acc, upd_same, hl, by rw [upd_upd]; exact hy (by rw [show decide (c ∈ figures) = false from c5]; rfl)⟩
            · exact hn (by rw [show decide (c ∈ figures) = true from c5]; rfl)
          · refine ⟨Nat.zero_le _, fun q nq => ?_⟩
            have s2 : Same _ (upd (upd H1 D (.lst ((z.cps.toList.filter fun c => !decide (c ∈ figures)).map sgn))) q (.lst [])) := Same.new nq
            have s3 := (Same.new (o := .lst ((z.cps.toList.filter fun c => !decide (c ∈ figures)).map sgn)) hD).trans s2
            refine ⟨D, q, _, rfl, rfl, SqL.of (s2 _ _ upd_same), SqL.of upd_same, _, rfl, ?_⟩
            rw [show (if true then !((z.cps.toList.filter fun c => !decide (c ∈ figures)).map sgn).isEmpty else ((z.cps.toList.filter fun c => !decide (c ∈ figures)).map sgn).isEmpty) = !(z.cps.toList.all fun c => decide (c ∈ figures)) from congrArg (!·) ((map_empty _ _).trans (filter_bad _ _))]
            refine iteBN (fun c3 => ?_) (fun c3 => ?_)
            · have e : numIn z lo hi = none := by unfold numIn; rw [e0, c3, if_neg Bool.false_ne_true]
              rw [e] at k
              exact k _ s3
            · rw [if_pos c3] at e0
              have hlen : z.cps.toList.length = z.length := by rw [Array.length_toList]; rfl
              obtain ⟨c, r, hcr⟩ : ∃ c r, z.cps.toList = c :: r := by
                cases q : z.cps.toList with
                | nil => rw [q] at hlen; simp at hlen; omega
                | cons c r => exact ⟨c, r, rfl⟩
              have h9' : (z.length : Int) ≤ 9 := c2
              refine ⟨_, rfl, z, 0, c, rfl, rfl, hline, by rw [hcr]; exact atI_nat (j := 0) rfl, rfl, _, rfl, iteD (fun c4 => ?_) (fun c4 => ?_)⟩
              · refine ⟨_, rfl, rfl, _, rfl, iteDN (fun c5 => ?_) (fun c5 => ?_)⟩
                · have e : numIn z lo hi = none := by unfold numIn; rw [e0, if_pos ⟨by rw [hcr, (zero_sign c).mp c4]; rfl, fun q => c5 (by rw [q])⟩]
                  rw [e] at k
                  exact k _ s3
                · have e : numIn z lo hi = if lo ≤ ((NumText.digitsVal z.cps.toList : Nat) : Int) ∧ ((NumText.digitsVal z.cps.toList : Nat) : Int) ≤ hi then some ((NumText.digitsVal z.cps.toList : Nat) : Int) else none := by unfold numIn; rw [e0, if_neg (fun q => q.2 (V.str.inj c5))]
                  refine ⟨_, rfl, _, rfl, z, _, rfl, int_text c1 h9' c3, by omega, _, _, rfl, rfl, _, rfl, iteD2 (fun c6 => ?_) (fun c6 => ?_)⟩
                  · refine ⟨_, rfl, _, _, rfl, rfl, _, rfl, iteD (fun c7 => ?_) (fun c7 => ?_)⟩
                    · rw [e, if_pos ⟨c6, c7⟩] at k
                      exact ⟨_, rfl, z, _, rfl, int_text c1 h9' c3, by omega, k _ s3⟩
                    · rw [e, if_neg (fun q => c7 q.2)] at k
                      exact k _ s3
                  · rw [e, if_neg (fun q => c6 q.1)] at k
                    exact ⟨_, rfl, iteF (k _ s3)⟩
              · have e : numIn z lo hi = if lo ≤ ((NumText.digitsVal z.cps.toList : Nat) : Int) ∧ ((NumText.digitsVal z.cps.toList : Nat) : Int) ≤ hi then some ((NumText.digitsVal z.cps.toList : Nat) : Int) else none := by unfold numIn; rw [e0, if_neg (fun q => c4 ((zero_sign c).mpr (by have := q.1; rw [hcr] at this; exact Option.some.inj this)))]
                refine ⟨_, rfl, _, rfl, z, _, rfl, int_text c1 h9' c3, by omega, _, _, rfl, rfl, _, rfl, iteD2 (fun c6 => ?_) (fun c6 => ?_)⟩
                · refine ⟨_, rfl, _, _, rfl, rfl, _, rfl, iteD (fun c7 => ?_) (fun c7 => ?_)⟩
                  · rw [e, if_pos ⟨c6, c7⟩] at k
                    exact ⟨_, rfl, z, _, rfl, int_text c1 h9' c3, by omega, k _ s3⟩
                  · rw [e, if_neg (fun q => c7 q.2)] at k
                    exact k _ s3
                · rw [e, if_neg (fun q => c6 q.1)] at k
                  exact ⟨_, rfl, iteF (k _ s3)⟩
      · have c1 : ¬ (1 ≤ (z.length : Int)) := fun q => c1 (decide_eq_true q)
        have e : numIn z lo hi = none := by unfold numIn numOf; rw [decide_eq_false c1, Bool.false_and, if_neg Bool.false_ne_true]
        rw [e] at k
        exact ⟨_, rfl, iteT (k _ (Same.refl _))⟩
end
end Pr
end

section
set_option Elab.async false
set_option linter.all false
set_option maxRecDepth 100000
set_option maxHeartbeats 4000000
/-! The law's own reader: lines. -/
namespace Pr
open PySem L2
section
variable {P : Program} {w : World} {K : PySem.W.Frag} {mg : Str → Option Value} {base : Heap}

theorem ix_listK {X : Cx} {K : PySem.W.Frag} (h : X.K = K) : IxR X (rIxL K) := by
  subst h
  exact ix_list
def leastOf (hs : List Held) : Int := match hs.getLast? with
  | none => 1
  | some g => g.2.2 + 1
def spLHeld (K : PySem.W.Frag) : Sp := fun vs H Q _ => ∃ (G wl : Addr) (gs : List V) (hs : List Held) (ws : List Str), vs = [.ref G, .ref wl, .str (wd ws 1)] ∧ H G = some (.lst gs) ∧ All2 (HeldAt H) gs hs ∧ hs.length ≤ 100 ∧ H wl = some (.lst (ws.map V.str)) ∧ short ws ∧
  (isNm (wd ws 1) = false → ∀ H', Same H H' → Q (.int 1) H') ∧
  (isNm (wd ws 1) = true → (numIn (wd ws 2) (leastOf hs) 360 = none → ∀ H', Same H H' → Q (.int 2) H') ∧
    ∀ f, numIn (wd ws 2) (leastOf hs) 360 = some f → (numIn (wd ws 3) f 360 = none → ∀ H', Same H H' → Q (.int 3) H') ∧
      ∀ t, numIn (wd ws 3) f 360 = some t → (4 < ws.length → ∀ H', Same H H' → Q (.int 4) H') ∧
        (ws.length ≤ 4 → ∀ H1 p, Same H H1 → H1 p = none → Q .non (upd (upd H1 p (.tup [.str (wd ws 1), .int f, .int t])) G (.lst (gs ++ [.ref p])))))
theorem ok_l_held_in (T : Txt K mg) : FnOk P w K mg base L2.CX0 2 (a_l_held_in K) (fdOf K (a_l_held_in K)) P_l_held_in (spLHeld K) := by
  refine T.F_l_held_in.ok sc_l_held_in (fun vs H Q E h => ?_) (fun cdv A outer s H vs Q E hr h => ?_)
  · obtain ⟨G, wl, gs, hs, ws, rfl, _⟩ := h
    rfl
  · obtain ⟨G, wl, gs, hs, ws, rfl, hG, hgs, hn, hw, sh, q0, q1⟩ := h
    have hu := hu_of hr
    have nd := sc_l_held_in.nd
    have isn : ∀ {X : Cx}, True := fun {X} => True.intro
    refine ⟨_, PSs.nox (pss_cons (ps_set (i := 3) nd rfl (Or.inl rfl) (pe_cut (pe_call (ok_l_number_in T) hr (by rfl) T.g__law_number_in (T.F_l_number_in).kp T.b_l_number_in .nil (E := E0) pass0 (pa_cons (pv 1) (pa_cons pe_int (pa_cons
          (pe_ifExp (pt_cmpR (op_neN (Nat.lt_of_succ_lt hu)) (pv 0) (pe_lst pa_nil) (nomark _)) (pe_op op_add (pe_ix ix_tup (pe_ix ix_list (pv 0) (pe_un un_neg pe_int) (fun _ _ => rfl)) pe_int (fun _ _ => rfl)) pe_int) pe_int) (pa_cons pe_int pa_nil)))))))
      (pss_cons (ps_if (PW.pt (pw_or (pt_not (pt_val (pe_call (ok_l_is_name T) hr (by rfl) T.g__law_is_name (T.F_l_is_name).kp T.b_l_is_name .nil (E := E0) pass0 (pa_cons (pv 2) pa_nil)))) (pw_or1 (pt_cmpR op_isN (pv 3) pe_non (nomark _)))))
        (pss_one (ps_ret (pe_ifExp (pt_not (pt_val (pe_call (ok_l_is_name T) hr (by rfl) T.g__law_is_name (T.F_l_is_name).kp T.b_l_is_name .nil (E := E0) pass0 (pa_cons (pv 2) pa_nil)))) pe_int pe_int))) pss_nil)
      (pss_cons (ps_set (i := 4) nd rfl (Or.inl rfl) (pe_call (ok_l_number_in T) hr (by rfl) T.g__law_number_in (T.F_l_number_in).kp T.b_l_number_in .nil (E := E0) pass0 (pa_cons (pv 1) (pa_cons pe_int (pa_cons (pv 3) (pa_cons pe_int pa_nil))))))
      (pss_cons (ps_if (PW.pt (pw_or (pt_cmpR op_isN (pv 4) pe_non (nomark _)) (pw_or1 (pt_cmpR op_gt (pe_callB call_len_seq (by rfl) T.f_len PySem.boot_len (pa_cons (pv 1) pa_nil)) pe_int (nomark _)))))
        (pss_one (ps_ret (pe_ifExp (pt_cmpR op_isN (pv 4) pe_non (nomark _)) pe_int pe_int))) pss_nil)
      (pss_cons (ps_expr (pe_bm PySem.F.plainAttrs_list PySem.F.slot_list_append PySem.F.type_list_append mt_append (pv 0) (pa_cons (pe_tup (pa_cons (pv 2) (pa_cons (pv 3) (pa_cons (pv 4) pa_nil)))) pa_nil)))
      (pss_one (ps_ret pe_non))))))), ?_⟩
    refine ⟨fun v H1 => v = numV (numIn (wd ws 2) (leastOf hs) 360) ∧ Same H H1, ?_, ?_⟩
    · refine ⟨_, rfl, _, rfl, Nat.zero_le _, fun e1 ne1 => ?_⟩
      have sb : Same H (upd H e1 (.lst [])) := Same.new ne1
      refine ⟨G, e1, gs, rfl, rfl, SqL.of (sb _ _ hG), SqL.of upd_same, _, rfl, ?_⟩
      rw [if_pos rfl]
      rcases List.eq_nil_or_concat hs with z | ⟨gs0, g, z⟩
      · subst z
        have eg : gs = [] := List.length_eq_zero_iff.mp hgs.length
        subst eg
        refine iteF ⟨wl, 2, 1, 360, ws, rfl, sb _ _ hw, sh, fun H' s' => ⟨rfl, sb.trans s'⟩⟩
      · rw [List.concat_eq_append] at z
        subst z
        obtain ⟨as, v, eg, _, x, ev, hx⟩ := hgs.split_last
        subst eg
        subst ev
        rw [show (!(as ++ [V.ref x]).isEmpty) = true by simp]
        have el : leastOf (gs0 ++ [g]) = g.2.2 + 1 := by
          unfold leastOf
          simp
        refine iteT ?_
        refine ⟨_, rfl, _, rfl, G, _, _, _, rfl, rfl, SqL.of (sb _ _ hG), atI_last _ _, x, _, _, _, rfl, rfl, SqT.of (sb _ _ hx), atI_nat (j := 2) rfl, _, _, rfl, rfl, ?_⟩
        exact ⟨wl, 2, g.2.2 + 1, 360, ws, rfl, sb _ _ hw, sh, fun H' s' => ⟨by rw [el], sb.trans s'⟩⟩
    · rintro v H1 ⟨rfl, s1⟩
      have hz := wd_short sh 1
      refine ⟨_, rfl, wd ws 1, rfl, hz, fun H2 s2 => ⟨_, rfl, iteBN (fun c1 => ?_) (fun c1 => ?_)⟩⟩
      · refine ⟨_, rfl, wd ws 1, rfl, hz, fun H3 s3 => ⟨_, rfl, iteBN (fun _ => q0 c1 H3 (s1.trans (s2.trans s3))) (fun c2 => ?_)⟩⟩
        rw [c1] at c2
        cases c2
      · obtain ⟨q1, q2⟩ := q1 c1
        cases ef : numIn (wd ws 2) (leastOf hs) 360 with
        | none =>
          refine ⟨_, rfl, rfl, _, rfl, iteT ?_⟩
          refine ⟨_, rfl, wd ws 1, rfl, hz, fun H3 s3 => ⟨_, rfl, iteBN (fun c2 => ?_) (fun _ => q1 ef H3 (s1.trans (s2.trans s3)))⟩⟩
          rw [c1] at c2
          cases c2
        | some f =>
          obtain ⟨q3, q4⟩ := q2 f ef
          refine ⟨_, rfl, rfl, _, rfl, iteF ?_⟩
          have s12 := s1.trans s2
          refine ⟨_, rfl, _, rfl, wl, 3, f, 360, ws, rfl, s12 _ _ hw, sh, fun H3 s3 => ?_⟩
          have s13 := s12.trans s3
          cases et : numIn (wd ws 3) f 360 with
          | none => exact ⟨_, rfl, rfl, _, rfl, iteT ⟨_, rfl, rfl, _, rfl, iteT (q3 et H3 s13)⟩⟩
          | some t =>
            obtain ⟨q5, q6⟩ := q4 t et
            refine ⟨_, rfl, rfl, _, rfl, iteF ⟨_, rfl, wl, _, rfl, .inl (SqL.of (s13 _ _ hw)), _, _, rfl, rfl, _, rfl, iteD (fun c => ?_) (fun c => ?_)⟩⟩
            · rw [List.length_map] at c
              exact ⟨_, rfl, rfl, _, rfl, iteF (q5 (by omega) H3 s13)⟩
            · rw [List.length_map] at c
              refine ⟨_, rfl, .inl ⟨rfl, _, SqL.of (s13 _ _ hG)⟩, _, rfl, _, rfl, _, rfl, (by show 3 ≤ sizeLine; decide), fun p np => ?_⟩
              exact ⟨G, _, _, rfl, rfl, (Same.new np) _ _ (s13 _ _ hG), sz (by rw [hgs.length]; exact hn), q6 (by omega) H3 p s13 np⟩
theorem dec_len (n k : Nat) : decide (V.int (n : Int) = V.int (k : Int)) = decide (n = k) := by
  by_cases h : n = k
  · subst h
    rw [decide_eq_true rfl, decide_eq_true rfl]
  · rw [decide_eq_false h, decide_eq_false (fun q => h (by have := V.int.inj q; omega))]
theorem nm_more {ws : List Str} (h : isNm (wd ws 1) = true) : 2 ≤ ws.length := by
  by_cases c : 2 ≤ ws.length
  · exact c
  · have e : wd ws 1 = "" := by
      unfold wd
      rw [List.getElem?_eq_none (by omega)]
      rfl
    rw [e] at h
    exact absurd h (by decide +kernel)
theorem all_eq_map {α : Type} {f : α → V} : ∀ {acc : List V} {as : List α}, All2 (fun v a => v = f a) acc as → acc = as.map f
  | [], [], _ => rfl
  | _ :: _, _ :: _, x => by
    rw [List.map_cons, x.1, all_eq_map x.2]
  | [], _ :: _, x => x.elim
  | _ :: _, [], x => x.elim
/-- where a county that is being told lies, its current list of houses -/
theorem Sto.look {mk : List V → HO} {Z H : Hp} {F : Addr} {av : List Addr} {st : Rl} (S : Sto mk Z H F av st) (hm : ∀ xs ys, mk xs = mk ys → xs = ys) :
    (st.cur = none ∧ H F = some (.lst [])) ∨ ∃ c fs a L us, st.cur = some c ∧ H F = some (.lst (fs ++ [.ref a])) ∧ H a = some (mk [.str c.pn, .ref L]) ∧ H L = some (.lst us) ∧ us.length = c.houses.length ∧ L ≠ F ∧
      (∀ (n : Str) (w : Int) (G' b' : Addr) (H' : Hp), H G' = none → H b' = none → b' ≠ G' → SameXs (L :: av) H H' → (∀ x ∈ av, H' x ≠ none) → H' G' = some (.lst []) → H' b' = some (mk [.str n, .int w, .ref G']) → H' L = some (.lst (us ++ [.ref b'])) → ∃ Z', Same Z Z' ∧ Sto mk Z' H' F av (st.addH n w)) ∧
      (c.h = none → us = []) ∧ ∀ h, c.h = some h → ∃ us' b G ws, us = us' ++ [.ref b] ∧ H b = some (mk [.str h.1, .int h.2.1, .ref G]) ∧ H G = some (.lst ws) ∧ All2 (HeldAt H) ws h.2.2 ∧ G ≠ F ∧
        ∀ (g : Held) (t : Addr) (H' : Hp), H t = none → SameXs (G :: av) H H' → (∀ x ∈ av, H' x ≠ none) → H' t = some (.tup [.str g.1, .int g.2.1, .int g.2.2]) → H' G = some (.lst (ws ++ [.ref t])) → ∃ Z', Same Z Z' ∧ Sto mk Z' H' F av (st.addG g) := by
  cases hc : st.cur with
  | none =>
    refine .inl ⟨rfl, ?_⟩
    cases S.st with
    | none h => exact h
    | par => cases hc
    | hou => cases hc
  | some c =>
    obtain ⟨fs, a, L, us, hF, ha, hL, aL, nL, ul, key⟩ := S.addH hc
    refine .inr ⟨c, fs, a, L, us, rfl, hF, ha, hL, ul, nL, key, fun e => ?_, fun h e => ?_⟩
    · cases S.st with
      | none => cases hc
      | par =>
        cases hc
        exact List.length_eq_zero_iff.mp ul
      | hou =>
        cases hc
        cases e
    · have hc' : st.cur = some ⟨c.pn, c.hd, some h⟩ := by
        rw [hc, ← e]
      obtain ⟨fs2, a2, L2, us2, b, G, ws, hF2, ha2, hL2, ul2, hb, hG, aG, nG, hw, key2⟩ := S.addG hc'
      rw [hF] at hF2
      have e1 := (List.append_inj' (HO.lst.inj (Option.some.inj hF2)) rfl).2
      have e2 : a = a2 := V.ref.inj (List.cons.inj e1).1
      subst e2
      rw [ha] at ha2
      have e3 := hm _ _ (Option.some.inj ha2)
      have e4 : L = L2 := V.ref.inj (List.cons.inj (List.cons.inj e3).2).1
      subst e4
      rw [hL] at hL2
      exact ⟨us2, b, G, ws, HO.lst.inj (Option.some.inj hL2), hb, hG, hw.mono (HeldAt.mono S.zh), nG, key2⟩
structure Info (Z H : Hp) (F : Addr) (st : Rl) (fs : List V) (L : Addr) (us : List V) : Prop where
  cp : st.canP = !((!fs.isEmpty && us.isEmpty) || decide (fs.length = 8))
  ch : st.canH = !(fs.isEmpty || (decide (us.length = 20) || decide (st.hnames.length = 60)))
  ul : us.length ≤ 20
  g0 : us = [] → st.canG = false
  kh : st.canH = true → H L = some (.lst us) ∧ L ≠ F ∧ ∀ (n : Str) (w : Int) (G' b' : Addr) (H' : Hp), H G' = none → H b' = none → b' ≠ G' → SameXs [L] H H' → H' G' = some (.lst []) → H' b' = some (.lst [.str n, .int w, .ref G']) → H' L = some (.lst (us ++ [.ref b'])) →
    ∃ Z', Same Z Z' ∧ Sto .lst Z' H' F [] (st.addH n w)
  g1 : us ≠ [] → ∃ us' b G ws pn hd h, us = us' ++ [.ref b] ∧ st.cur = some ⟨pn, hd, some h⟩ ∧ H b = some (.lst [.str h.1, .int h.2.1, .ref G]) ∧ H G = some (.lst ws) ∧ All2 (HeldAt H) ws h.2.2 ∧ G ≠ F ∧ h.2.2.length ≤ 12 ∧
    ∀ (g : Held) (t : Addr) (H' : Hp), H t = none → SameXs [G] H H' → H' t = some (.tup [.str g.1, .int g.2.1, .int g.2.2]) → H' G = some (.lst (ws ++ [.ref t])) → ∃ Z', Same Z Z' ∧ Sto .lst Z' H' F [] (st.addG g)
theorem info_of {Z H : Hp} {F : Addr} {st : Rl} (S : Sto .lst Z H F [] st) (W : st.Wf) : (H F = some (.lst []) ∧ ∀ L, Info Z H F st [] L []) ∨
    ∃ fs a L us pn, H F = some (.lst (fs ++ [.ref a])) ∧ H a = some (.lst [.str pn, .ref L]) ∧ H L = some (.lst us) ∧ Info Z H F st (fs ++ [.ref a]) L us := by
  rcases S.look (fun xs ys h => HO.lst.inj h) with ⟨hc, hF⟩ | ⟨c, fs, a, L, us, hc, hF, ha, hL, ul, nL, keyH, hnone, hsome⟩
  · refine .inl ⟨hF, fun L => ⟨?_, ?_, Nat.zero_le _, fun _ => ?_, fun h => ?_, fun h => absurd rfl h⟩⟩
    · unfold Rl.canP
      rw [hc]
      rfl
    · unfold Rl.canH
      rw [hc]
      rfl
    · unfold Rl.canG
      rw [hc]
    · unfold Rl.canH at h
      rw [hc] at h
      cases h
  · obtain ⟨fs', hF', fl⟩ := S.flen
    rw [hF] at hF'
    cases hF'
    have few := W.few
    have hns := W.houses
    have ul20 : us.length ≤ 20 := by
      rw [ul]
      exact (W.each _ (by rw [all_some hc]; exact List.mem_append_right _ List.mem_cons_self)).2.1
    refine .inr ⟨fs, a, L, us, c.pn, hF, ha, hL, ?_, ?_, ul20, fun e => ?_, fun _ => ⟨hL, nL, fun n w G' b' H' n1 n2 n3 k hG hb hL' => keyH n w G' b' H' n1 n2 n3 k (fun x hx => by simp at hx) hG hb hL'⟩, fun e => ?_⟩
    · unfold Rl.canP
      rw [hc]
      show (!c.houses.isEmpty && decide (st.all.length < 8)) = _
      rw [empty_len ul, fl, show (fs ++ [V.ref a]).isEmpty = false by simp]
      by_cases z : st.all.length = 8
      · rw [decide_eq_true z, decide_eq_false (by omega)]
        simp
      · rw [decide_eq_false z, decide_eq_true (by omega)]
        simp
    · unfold Rl.canH
      rw [hc]
      show (decide (c.houses.length < 20) && decide (st.hnames.length < 60)) = _
      rw [← ul, show (fs ++ [V.ref a]).isEmpty = false by simp]
      by_cases z : us.length = 20
      · rw [decide_eq_true z, decide_eq_false (by omega)]
        simp
      · rw [decide_eq_false z, decide_eq_true (by omega)]
        by_cases z2 : st.hnames.length = 60
        · rw [decide_eq_true z2, decide_eq_false (by omega)]
          simp
        · rw [decide_eq_false z2, decide_eq_true (by omega)]
          simp
    · unfold Rl.canG
      rw [hc]
      obtain ⟨pn, hd, h⟩ := c
      cases h with
      | none => rfl
      | some h =>
        have := ul
        rw [e] at this
        simp [Cur.houses] at this
    · obtain ⟨pn, hd, h⟩ := c
      cases h with
      | none => exact absurd (hnone rfl) e
      | some h =>
        obtain ⟨us', b, G, ws, eu, hb, hG, hw, nG, key⟩ := hsome h rfl
        refine ⟨us', b, G, ws, pn, hd, h, eu, hc, hb, hG, hw, nG, ?_, fun g t H' n1 k h1 h2 => key g t H' n1 k (fun x hx => by simp at hx) h1 h2⟩
        have hp : ParishOk (pn, hd ++ [h]) := W.each _ (by rw [all_some hc]; exact List.mem_append_right _ List.mem_cons_self)
        exact (hp.2.2 h (by simp)).2.2.2.1
def spLLine (K : PySem.W.Frag) : Sp := fun vs H Q _ => ∃ (F wl : Addr) (Z : Hp) (ws : List Str) (st : Rl), vs = [.ref F, .ref wl] ∧ Sto .lst Z H F [] st ∧ st.Wf ∧ Z wl = some (.lst (ws.map V.str)) ∧ short ws ∧ 0 < ws.length ∧
  (∀ k : Nat, takeLine st ws = .error k → ∀ H', Same Z H' → Q (.int k) H') ∧ (∀ st', takeLine st ws = .ok st' → ∀ Z' H', Same Z Z' → Sto .lst Z' H' F [] st' → Q .non H')
theorem ok_l_line_in (T : Txt K mg) : FnOk P w K mg base L2.CX0 3 (a_l_line_in K) (fdOf K (a_l_line_in K)) P_l_line_in (spLLine K) := by
  refine T.F_l_line_in.ok sc_l_line_in (fun vs H Q E h => ?_) (fun cdv A outer s H vs Q E hr h => ?_)
  · obtain ⟨F, wl, Z, ws, st, rfl, _⟩ := h
    rfl
  · obtain ⟨F, wl, Z, ws, st, rfl, S, W, hwz, sh, hpos, qe, qo⟩ := h
    have hu := hu_of hr
    have nd := sc_l_line_in.nd
    refine ⟨_, PSs.nox (pss_cons (ps_set (i := 2) sc_l_line_in.nd rfl (Or.inl rfl) (pe_cut (pe_ifExp (pt_cmpR (op_neN (Nat.lt_of_succ_lt hu)) (pv 0) (pe_lst pa_nil) (nomark _)) (pe_ix ix_list (pe_ix ix_list (pv 0) (pe_un un_neg pe_int) (fun _ _ => rfl)) pe_int (fun _ _ => rfl)) (pe_lst pa_nil))))
      (pss_cons (ps_set (i := 3) sc_l_line_in.nd rfl (Or.inl rfl) (pe_cut (pe_ifExp (pt_cmpR op_gt (pe_callB call_len_seq (by rfl) T.f_len PySem.boot_len (pa_cons (pv 1) pa_nil)) pe_int (nomark _)) (pe_ix ix_list (pv 1) pe_int (fun _ _ => rfl)) pe_str)))
      (pss_cons (ps_if (pt_cmpR op_eq (pe_ix ix_list (pv 1) pe_int (fun _ _ => rfl)) pe_str (nomark _)) (pss_cons (ps_if (pt_cut (PW.pt (pw_or (pt_cut (PW.pt (pw_and (pt_cmpR (op_neN (Nat.lt_of_succ_lt hu)) (pv 0) (pe_lst pa_nil) (nomark _)) (pw_and1 (pt_cmpR (op_eqN (Nat.lt_of_succ_lt hu)) (pv 2) (pe_lst pa_nil) (nomark _)))))) (pw_or1 (pt_cmpR op_eq (pe_callB call_len_seq (by rfl) T.f_len PySem.boot_len (pa_cons (pv 0) pa_nil)) pe_int (nomark _)))))) (pss_one (ps_ret pe_int)) pss_nil)
       (pss_cons (ps_if (pt_cut (PW.pt (pw_or (pt_not (pt_val (pe_call (ok_l_is_name T) (hr.mono (by decide)) (by rfl) T.g__law_is_name (T.F_l_is_name).kp T.b_l_is_name .nil (E := E0) pass0 (pa_cons (pv 3) pa_nil)))) (pw_or1 (pt_cmpR op_in_seq (pv 3) (pe_lc (own := [("_law_parish", 4)]) (g := gName 4) (tt := tYes) rfl sc_l_line_in.nd (pi_list (pv 0)) (blkOk_by (N := N_l_line_in) (sc := defScope s_l_line_in) (by decide +kernel)) (fun _ _ _ _ _ => pg_name (i := 4) sc_l_line_in.nd rfl (Or.inl rfl)) (fun _ _ _ _ _ => pts_nil) (fun _ _ _ _ _ => (pe_ix (ix_listK (K := K) rfl) (pv 4) pe_int (fun _ _ => rfl)))) (by rfl)))))) (pss_one (ps_ret pe_int)) pss_nil)
       (pss_cons (ps_expr (pe_bm PySem.F.plainAttrs_list PySem.F.slot_list_append PySem.F.type_list_append mt_append (pv 0) (pa_cons (pe_lst (pa_cons (pv 3) (pa_cons (pe_lst pa_nil) pa_nil))) pa_nil)))
       (pss_one (ps_ret (pe_ifExp (pt_cmpR op_eq (pe_callB call_len_seq (by rfl) T.f_len PySem.boot_len (pa_cons (pv 1) pa_nil)) pe_int (nomark _)) pe_non pe_int)))))) pss_nil)
      (pss_cons (ps_if (pt_cmpR op_eq (pe_ix ix_list (pv 1) pe_int (fun _ _ => rfl)) pe_str (nomark _)) (pss_cons (ps_set (i := 5) sc_l_line_in.nd rfl (Or.inl rfl) (pe_lst pa_nil))
       (pss_cons (ps_for PassesOwn.never rfl (pi_list (pv 0)) (pg_name (i := 4) sc_l_line_in.nd rfl (Or.inl rfl))
        (pss_one (ps_set (i := 5) sc_l_line_in.nd rfl (Or.inl rfl) (pe_op op_cat (pv 5) (pe_lc (own := [("_law_house", 7)]) (g := gName 7) (tt := tYes) rfl sc_l_line_in.nd (pi_list (pe_ix ix_list (pv 4) pe_int (fun _ _ => rfl))) (blkOk_by (N := N_l_line_in) (sc := defScope s_l_line_in) (by decide +kernel)) (fun _ _ _ _ _ => pg_name (i := 7) sc_l_line_in.nd rfl (Or.inl rfl)) (fun _ _ _ _ _ => pts_nil) (fun _ _ _ _ _ => (pe_ix (ix_listK (K := K) rfl) (pv 7) pe_int (fun _ _ => rfl))))))))
       (pss_cons (ps_if (pt_cut (PW.pt (pw_or (pt_cmpR (op_eqN (Nat.lt_of_succ_lt hu)) (pv 0) (pe_lst pa_nil) (nomark _)) (pw_or (pt_cmpR op_eq (pe_callB call_len_seq (by rfl) T.f_len PySem.boot_len (pa_cons (pv 2) pa_nil)) pe_int (nomark _)) (pw_or1 (pt_cmpR op_eq (pe_callB call_len_seq (by rfl) T.f_len PySem.boot_len (pa_cons (pv 5) pa_nil)) pe_int (nomark _))))))) (pss_one (ps_ret pe_int)) pss_nil)
       (pss_cons (ps_if (pt_cut (PW.pt (pw_or (pt_not (pt_val (pe_call (ok_l_is_name T) (hr.mono (by decide)) (by rfl) T.g__law_is_name (T.F_l_is_name).kp T.b_l_is_name .nil (E := E0) pass0 (pa_cons (pv 3) pa_nil)))) (pw_or1 (pt_cmpR op_in_seq (pv 3) (pv 5) (by rfl)))))) (pss_one (ps_ret pe_int)) pss_nil)
       (pss_cons (ps_set (i := 6) sc_l_line_in.nd rfl (Or.inl rfl) (pe_call (ok_l_number_in T) (hr.mono (by decide)) (by rfl) T.g__law_number_in (T.F_l_number_in).kp T.b_l_number_in .nil (E := E0) pass0 (pa_cons (pv 1) (pa_cons pe_int (pa_cons pe_int (pa_cons pe_int pa_nil))))))
       (pss_cons (ps_if (PW.pt (pw_or (pt_cmpR op_isN (pv 6) pe_non (nomark _)) (pw_or1 (pt_cmpR op_gt (pe_callB call_len_seq (by rfl) T.f_len PySem.boot_len (pa_cons (pv 1) pa_nil)) pe_int (nomark _))))) (pss_one (ps_ret (pe_ifExp (pt_cmpR op_isN (pv 6) pe_non (nomark _)) pe_int pe_int))) pss_nil)
       (pss_cons (ps_expr (pe_bm PySem.F.plainAttrs_list PySem.F.slot_list_append PySem.F.type_list_append mt_append (pv 2) (pa_cons (pe_lst (pa_cons (pv 3) (pa_cons (pv 6) (pa_cons (pe_lst pa_nil) pa_nil)))) pa_nil)))
       (pss_one (ps_ret pe_non))))))))) pss_nil)
      (pss_cons (ps_if (pt_cut (PW.pt (pw_or (pt_cmpR op_ne (pe_ix ix_list (pv 1) pe_int (fun _ _ => rfl)) pe_str (nomark _)) (pw_or (pt_cmpR (op_eqN (Nat.lt_of_succ_lt hu)) (pv 2) (pe_lst pa_nil) (nomark _)) (pw_or1 (pt_cmpR op_eq (pe_callB call_len_seq (by rfl) T.f_len PySem.boot_len (pa_cons (pe_ix ix_list (pe_ix ix_list (pv 2) (pe_un un_neg pe_int) (fun _ _ => rfl)) pe_int (fun _ _ => rfl)) pa_nil)) pe_int (nomark _))))))) (pss_one (ps_ret pe_int)) pss_nil)
      (pss_one (ps_ret (pe_call (ok_l_held_in T) hr (by rfl) T.g__law_held_in (T.F_l_held_in).kp T.b_l_held_in .nil (E := E0) pass0 (pa_cons (pe_ix ix_list (pe_ix ix_list (pv 2) (pe_un un_neg pe_int) (fun _ _ => rfl)) pe_int (fun _ _ => rfl)) (pa_cons (pv 1) (pa_cons (pv 3) pa_nil))))))))))), ?_⟩
    have hw : H wl = some (.lst (ws.map V.str)) := S.zh _ _ hwz
    have at0 : atI (ws.map V.str) 0 = some (V.str (wd ws 0)) := by
      have e : wd ws 0 = ws[0] := by
        unfold wd
        rw [List.getElem?_eq_getElem hpos]
        rfl
      rw [e]
      exact atI_map ws 0 (List.getElem?_eq_getElem hpos)
    obtain ⟨fs, hF, hco⟩ := S.co
    have hco := hco.mono (ParAt.mono (hide_same _ _))
    have hfs8 : fs.length ≤ 8 := by
      rw [hco.length]
      exact W.few
    refine ⟨fun v H1 => Same H H1 ∧ ∃ L us, v = .ref L ∧ H1 L = some (.lst us) ∧ Info Z H F st fs L us, ?_, ?_⟩
    · refine ⟨_, rfl, Nat.zero_le _, fun e ne => ?_⟩
      have s1 : Same H (upd H e (.lst [])) := Same.new ne
      refine ⟨F, e, _, rfl, rfl, SqL.of (s1 _ _ hF), SqL.of upd_same, _, rfl, ?_⟩
      rw [if_pos rfl]
      rcases info_of S W with ⟨hF2, I⟩ | ⟨fs2, a, L, us, pn, hF2, ha, hL, I⟩
      · rw [hF] at hF2
        cases hF2
        refine iteF ⟨Nat.zero_le _, fun e2 ne2 => ⟨s1.trans (Same.new ne2), e2, [], rfl, upd_same, I e2⟩⟩
      · rw [hF] at hF2
        cases hF2
        rw [show (!(fs2 ++ [V.ref a]).isEmpty) = true by simp]
        exact iteT ⟨_, rfl, _, rfl, F, _, _, _, rfl, rfl, SqL.of (s1 _ _ hF), atI_last _ _, a, _, _, _, rfl, rfl, SqL.of (s1 _ _ ha), atI_nat (j := 1) rfl, s1, L, us, rfl, s1 _ _ hL, I⟩
    · rintro v H1 ⟨s1, L, us, rfl, hL, I⟩
      refine ⟨fun v H2 => v = .str (wd ws 1) ∧ H2 = H1, ?_, ?_⟩
      · refine ⟨_, rfl, wl, _, rfl, .inl (SqL.of (s1 _ _ hw)), _, _, rfl, rfl, _, rfl, iteD (fun c => ?_) (fun c => ?_)⟩
        · have c : 1 < ws.length := by
            rw [List.length_map] at c
            omega
          refine ⟨_, rfl, wl, _, _, _, rfl, rfl, SqL.of (s1 _ _ hw), atI_map ws 1 (List.getElem?_eq_getElem c), ?_, rfl⟩
          unfold wd
          rw [List.getElem?_eq_getElem c]
          rfl
        · have c : ws.length ≤ 1 := by
            rw [List.length_map] at c
            omega
          refine ⟨?_, rfl⟩
          unfold wd
          rw [List.getElem?_eq_none c]
          rfl
      · rintro v H2 ⟨rfl, rfl⟩
        have hz := wd_short sh 1
        refine ⟨_, rfl, wl, _, _, _, rfl, rfl, SqL.of (s1 _ _ hw), at0, rfl, _, rfl, iteD (fun c1 => ?_) (fun c1 => ?_)⟩
        · have w0 : wd ws 0 = "parish" := V.str.inj c1
          have tl : takeLine st ws = if st.canP = true then takeP st ws else .error 0 := by
            unfold takeLine
            by_cases c : st.canP = true
            · rw [if_pos ⟨w0, c⟩, if_pos c]
            · rw [if_neg (fun q => c q.2), if_neg (fun q => ph (w0.symm.trans q.1)), if_neg (fun q => pg' (w0.symm.trans q.1)), if_neg c]
          refine ⟨fun b H3 => b = (!st.canP) ∧ Same H2 H3, ?_, ?_⟩
          · refine ⟨fun b H3 => b = (!fs.isEmpty && us.isEmpty) ∧ Same H2 H3, ?_, ?_⟩
            · refine ⟨_, rfl, Nat.zero_le _, fun e ne => ?_⟩
              have sa := Same.new (o := .lst []) ne
              refine ⟨F, e, fs, rfl, rfl, SqL.of (sa _ _ (s1 _ _ hF)), SqL.of upd_same, _, rfl, ?_⟩
              rw [if_pos rfl]
              refine iteBN (fun c => ?_) (fun c => ?_)
              · refine ⟨_, rfl, Nat.zero_le _, fun e1 ne1 => ?_⟩
                have sb := sa.trans (Same.new (o := .lst []) ne1)
                refine ⟨L, e1, us, rfl, rfl, SqL.of (sb _ _ hL), SqL.of upd_same, _, rfl, ?_, sb⟩
                rw [c]
                rfl
              · exact ⟨by rw [c]; rfl, sa⟩
            · rintro b H3 ⟨rfl, s3⟩
              refine iteB (fun c => ?_) (fun c => ?_)
              · exact ⟨by rw [I.cp, c]; rfl, s3⟩
              · refine ⟨_, rfl, F, _, rfl, .inl (SqL.of (s3 _ _ (s1 _ _ hF))), rfl, _, rfl, ?_, s3⟩
                rw [I.cp, c, Bool.false_or, Bool.not_not]
                exact dec_len fs.length 8
          · rintro b H3 ⟨rfl, s3⟩
            have k3 : Same H H3 := s1.trans s3
            refine iteBN (fun c => ?_) (fun c => ?_)
            · exact qe 0 (by rw [tl, if_neg (by rw [c]; exact Bool.false_ne_true)]) H3 (S.zh.trans k3)
            · rw [if_pos c] at tl
              refine ⟨fun b H4 => b = (!isNm (wd ws 1) || decide (wd ws 1 ∈ st.pnames)) ∧ Same H3 H4, ?_, ?_⟩
              · refine ⟨_, rfl, wd ws 1, rfl, hz, fun H4 s4 => ⟨_, rfl, iteBN (fun c4 => ?_) (fun c4 => ?_)⟩⟩
                · exact ⟨by rw [c4]; rfl, s4⟩
                · have k4 : Same H H4 := k3.trans s4
                  refine ⟨_, rfl, _, rfl, F, rfl, ⟨fs, SqL.of (k4 _ _ hF)⟩, fun D nD => lc_T (ParAt .lst H) (fun _ v p => v = .str p.1) (fun _ _ _ _ _ h => h) nD (SqL.of (k4 _ _ hF)) hco ?_ ?_ ?_⟩
                  · exact Nat.le_of_lt (sz (Nat.le_trans W.few (by decide)))
                  · rintro x p Hc N ⟨a', L', us', rfl, h1, _⟩ _ kc hN
                    exact ⟨rfl, _, rfl, a', _, _, _, rfl, rfl, SqL.of (kc _ _ (k4 _ _ h1)), atI_nat (j := 0) rfl, hN _ _ (Same.refl _) rfl⟩
                  · intro H5 acc s5 hD hacc
                    have ea : acc = st.pnames.map V.str := by
                      rw [all_eq_map (f := fun p : Parish => V.str p.1) hacc]
                      unfold Rl.pnames
                      rw [List.map_map]
                      rfl
                    subst ea
                    refine ⟨D, _, rfl, .inl (SqL.of hD), rfl, strs_flat _, _, rfl, ?_, s4.trans s5⟩
                    rw [c4]
                    exact inV_strs _ _
              · rintro b H4 ⟨rfl, s4⟩
                have k4 : Same H H4 := k3.trans s4
                refine iteB (fun c4 => ?_) (fun c4 => ?_)
                · have nn : ¬ (isNm (wd ws 1) = true ∧ wd ws 1 ∉ st.pnames) := fun q => by
                    rw [q.1, decide_eq_false q.2] at c4
                    cases c4
                  exact qe 1 (by rw [tl]; unfold takeP; rw [if_neg nn]) H4 (S.zh.trans k4)
                · have yy : isNm (wd ws 1) = true ∧ wd ws 1 ∉ st.pnames := by
                    cases z : isNm (wd ws 1) with
                    | false =>
                      rw [z] at c4
                      cases c4
                    | true =>
                      rw [z] at c4
                      exact ⟨rfl, of_decide_eq_false c4⟩
                  have l2 := nm_more yy.1
                  have tl2 : takeLine st ws = if ws.length ≤ 2 then .ok (st.addP (wd ws 1)) else .error 2 := by
                    rw [tl]
                    unfold takeP
                    rw [if_pos yy]
                  obtain ⟨fs2, hF2, fl, key⟩ := S.addP
                  rw [hF] at hF2
                  cases hF2
                  refine ⟨_, rfl, .inl ⟨rfl, _, SqL.of (k4 _ _ hF)⟩, _, rfl, Nat.zero_le _, fun L' nL' => ⟨(by show 2 ≤ sizeLine; decide), fun a' na' => ?_⟩⟩
                  obtain ⟨naL, na2⟩ := new_upd na'
                  have s5 := (Same.new (o := .lst []) nL').trans (Same.new (o := .lst [.str (wd ws 1), .ref L']) na')
                  have k5 := k4.trans s5
                  refine ⟨F, _, _, rfl, rfl, k5 _ _ hF, sz (Nat.le_trans hfs8 (by decide)), ?_⟩
                  have FL : L' ≠ F := (ne_of_none (k4 _ _ hF) nL').symm
                  have Fa : a' ≠ F := (ne_of_none (k4 _ _ hF) na2).symm
                  obtain ⟨Z', zz, S5⟩ := key (wd ws 1) L' a' (upd (upd (upd H4 L' (.lst [])) a' (.lst [.str (wd ws 1), .ref L'])) F (.lst (fs ++ [.ref a']))) (k4.free nL') (k4.free na2) naL
                    (fun b u m e => by rw [upd_ne (fun z => m (by simp [z]))]; exact k5 b u e) (fun x hx => by simp at hx) (by rw [upd_ne FL, upd_ne (Ne.symm naL), upd_same]) (by rw [upd_ne Fa, upd_same]) upd_same
                  have hw5 := S5.zh _ _ (zz _ _ hwz)
                  refine ⟨_, rfl, wl, _, rfl, .inl (SqL.of hw5), rfl, _, rfl, iteD (fun c5 => ?_) (fun c5 => ?_)⟩
                  · have c5 : ws.length = 2 := by
                      have := V.int.inj c5
                      rw [List.length_map] at this
                      omega
                    exact qo _ (by rw [tl2, if_pos (by omega)]) Z' _ zz S5
                  · have c5 : ¬ ws.length = 2 := fun z => c5 (by rw [List.length_map, z]; rfl)
                    exact qe 2 (by rw [tl2, if_neg (by omega)]) _ (zz.trans S5.zh)
        · have w0 : ¬ wd ws 0 = "parish" := fun z => c1 (congrArg V.str z)
          refine ⟨_, rfl, wl, _, _, _, rfl, rfl, SqL.of (s1 _ _ hw), at0, rfl, _, rfl, iteD (fun c2 => ?_) (fun c2 => ?_)⟩
          · have w1 : wd ws 0 = "house" := V.str.inj c2
            have tl : takeLine st ws = if st.canH = true then takeH st ws else .error 0 := by
              unfold takeLine
              rw [if_neg (fun q => w0 q.1)]
              by_cases c : st.canH = true
              · rw [if_pos ⟨w1, c⟩, if_pos c]
              · rw [if_neg (fun q => c q.2), if_neg (fun q => hg' (w1.symm.trans q.1)), if_neg c]
            refine ⟨Nat.zero_le _, fun q0 nq0 => ?_⟩
            have sq0 := Same.new (o := .lst []) nq0
            refine ⟨_, rfl, F, rfl, ⟨fs, SqL.of (sq0 _ _ (s1 _ _ hF))⟩, for_list (K := K) (a := F) (xs := fs) (fun i σ H' => ∃ q o4, σ = [some (.ref F), some (.ref wl), some (.ref L), some (.str (wd ws 1)), o4, some (.ref q), none, none] ∧ Same H2 H' ∧ H' q = some (.lst ((hnOf (st.all.take i)).map V.str)))
              ⟨q0, none, rfl, sq0, upd_same⟩ (fun i σ H' _ ⟨_, _, _, s, _⟩ => SqL.of (s _ _ (s1 _ _ hF))) ?_ ?_⟩
            · rintro i x σ H3 hx ⟨q, o4, rfl, s3, hq⟩
              obtain ⟨p, hp, b, Lb, ub, rfl, hb, hLb, hub⟩ := hco.get hx
              have k3 : Same H H3 := s1.trans s3
              refine ⟨_, rfl, _, rfl, b, _, _, _, rfl, rfl, SqL.of (k3 _ _ hb), atI_nat (j := 1) rfl, Lb, rfl, ⟨ub, SqL.of (k3 _ _ hLb)⟩, fun D nD => lc_T (HouseAt .lst H) (fun _ v h => v = .str h.1) (fun _ _ _ _ _ h => h) nD (SqL.of (k3 _ _ hLb)) hub ?_ ?_ ?_⟩
              · exact Nat.le_of_lt (sz (Nat.le_trans (W.each p (List.mem_of_getElem? hp)).2.1 (by decide)))
              · rintro x h Hc N ⟨a', G', gs', rfl, h1, _⟩ _ kc hN
                exact ⟨rfl, _, rfl, a', _, _, _, rfl, rfl, SqL.of (kc _ _ (k3 _ _ h1)), atI_nat (j := 0) rfl, hN _ _ (Same.refl _) rfl⟩
              · intro H5 acc s5 hD hacc
                have ea : acc = (p.2.map (·.1)).map V.str := by
                  rw [all_eq_map (f := fun h : House => V.str h.1) hacc, List.map_map]
                  rfl
                subst ea
                have lt1 : (hnOf (st.all.take i)).length + (p.2.map (·.1)).length = (hnOf (st.all.take (i + 1))).length := by
                  rw [take_succ' hp, hnOf_append, hnOf_one, List.length_append]
                have lt2 : (hnOf (st.all.take (i + 1))).length ≤ st.hnames.length := by
                  have e : st.hnames = hnOf (st.all.take (i + 1)) ++ hnOf (st.all.drop (i + 1)) := by
                    rw [← hnOf_append, List.take_append_drop]
                    rfl
                  rw [e, List.length_append]
                  omega
                refine ⟨q, D, _, _, rfl, rfl, s5 _ _ hq, hD, Nat.le_of_lt (sz (by rw [List.length_map, List.length_map, lt1]; have := W.houses; omega)), fun p' np => ⟨p', _, rfl, (s3.trans s5).trans (Same.new np), ?_⟩⟩
                rw [upd_same, take_succ' hp, hnOf_append, hnOf_one, List.map_append]
            · rintro σ H3 ⟨q, o4, rfl, s3, hq⟩
              rw [hco.length, List.take_length] at hq
              have hq : H3 q = some (.lst (st.hnames.map V.str)) := hq
              have k3 : Same H H3 := s1.trans s3
              refine ⟨fun b H4 => b = (!st.canH) ∧ Same H3 H4, ?_, ?_⟩
              · refine ⟨_, rfl, Nat.zero_le _, fun e ne => ?_⟩
                have sa := Same.new (o := .lst []) ne
                refine ⟨F, e, fs, rfl, rfl, SqL.of (sa _ _ (k3 _ _ hF)), SqL.of upd_same, _, rfl, ?_⟩
                rw [if_neg Bool.false_ne_true]
                refine iteB (fun c => ?_) (fun c => ?_)
                · exact ⟨by rw [I.ch, c]; rfl, sa⟩
                · refine ⟨_, rfl, L, _, rfl, .inl (SqL.of (sa _ _ (s3 _ _ hL))), rfl, _, rfl, ?_⟩
                  rw [show decide (V.int (us.length : Int) = V.int 20) = decide (us.length = 20) from dec_len us.length 20]
                  refine iteB (fun c2 => ?_) (fun c2 => ?_)
                  · exact ⟨by rw [I.ch, c, c2]; rfl, sa⟩
                  · refine ⟨_, rfl, q, _, rfl, .inl (SqL.of (sa _ _ hq)), rfl, _, rfl, ?_, sa⟩
                    rw [I.ch, c, c2, Bool.false_or, Bool.false_or, Bool.not_not, List.length_map]
                    exact dec_len st.hnames.length 60
              · rintro b H4 ⟨rfl, s4⟩
                have k4 := k3.trans s4
                refine iteBN (fun c => ?_) (fun c => ?_)
                · exact qe 0 (by rw [tl, if_neg (by rw [c]; exact Bool.false_ne_true)]) H4 (S.zh.trans k4)
                · rw [if_pos c] at tl
                  refine ⟨fun b H5 => b = (!isNm (wd ws 1) || decide (wd ws 1 ∈ st.hnames)) ∧ Same H4 H5, ?_, ?_⟩
                  · refine ⟨_, rfl, wd ws 1, rfl, hz, fun H5 s5 => ⟨_, rfl, iteBN (fun c4 => ?_) (fun c4 => ?_)⟩⟩
                    · exact ⟨by rw [c4]; rfl, s5⟩
                    · refine ⟨_, rfl, _, rfl, q, _, rfl, .inl (SqL.of (s5 _ _ (s4 _ _ hq))), rfl, strs_flat _, _, rfl, ?_, s5⟩
                      rw [c4]
                      exact inV_strs _ _
                  · rintro b H5 ⟨rfl, s5⟩
                    have k5 := k4.trans s5
                    refine iteB (fun c4 => ?_) (fun c4 => ?_)
                    · have nn : ¬ (isNm (wd ws 1) = true ∧ wd ws 1 ∉ st.hnames) := fun q => by
                        rw [q.1, decide_eq_false q.2] at c4
                        cases c4
                      exact qe 1 (by rw [tl]; unfold takeH; rw [if_neg nn]) H5 (S.zh.trans k5)
                    · have yy : isNm (wd ws 1) = true ∧ wd ws 1 ∉ st.hnames := by
                        cases z : isNm (wd ws 1) with
                        | false =>
                          rw [z] at c4
                          cases c4
                        | true =>
                          rw [z] at c4
                          exact ⟨rfl, of_decide_eq_false c4⟩
                      refine ⟨_, rfl, wl, 2, 0, 9999, ws, rfl, k5 _ _ hw, sh, fun H6 s6 => ?_⟩
                      have k6 := k5.trans s6
                      cases em : numIn (wd ws 2) 0 9999 with
                      | none =>
                        refine ⟨_, rfl, rfl, _, rfl, iteT ⟨_, rfl, rfl, _, rfl, iteT ?_⟩⟩
                        exact qe 2 (by rw [tl]; unfold takeH; rw [if_pos yy, em]) H6 (S.zh.trans k6)
                      | some m =>
                        have tl2 : takeLine st ws = if ws.length ≤ 3 then .ok (st.addH (wd ws 1) m) else .error 3 := by
                          rw [tl]
                          unfold takeH
                          rw [if_pos yy, em]
                        refine ⟨_, rfl, rfl, _, rfl, iteF ⟨_, rfl, wl, _, rfl, .inl (SqL.of (k6 _ _ hw)), _, _, rfl, rfl, _, rfl, iteD (fun c6 => ?_) (fun c6 => ?_)⟩⟩
                        · rw [List.length_map] at c6
                          exact ⟨_, rfl, rfl, _, rfl, iteF (qe 3 (by rw [tl2, if_neg (by omega)]) H6 (S.zh.trans k6))⟩
                        · rw [List.length_map] at c6
                          obtain ⟨hLH, nLF, key⟩ := I.kh c
                          refine ⟨_, rfl, .inl ⟨rfl, _, SqL.of (k6 _ _ hLH)⟩, _, rfl, _, rfl, Nat.zero_le _, fun G' nG' => ⟨(by show 3 ≤ sizeLine; decide), fun b' nb' => ?_⟩⟩
                          obtain ⟨nbG, nb2⟩ := new_upd nb'
                          have s7 := (Same.new (o := .lst []) nG').trans (Same.new (o := .lst [.str (wd ws 1), .int m, .ref G']) nb')
                          have k7 := k6.trans s7
                          refine ⟨L, _, _, rfl, rfl, k7 _ _ hLH, sz (Nat.le_trans I.ul (by decide)), ?_⟩
                          have GL : G' ≠ L := (ne_of_none (k6 _ _ hLH) nG').symm
                          have bL : b' ≠ L := (ne_of_none (k6 _ _ hLH) nb2).symm
                          obtain ⟨Z', zz, S5⟩ := key (wd ws 1) m G' b' (upd (upd (upd H6 G' (.lst [])) b' (.lst [.str (wd ws 1), .int m, .ref G'])) L (.lst (us ++ [.ref b']))) (k6.free nG') (k6.free nb2) nbG
                            (fun b u mm e => by rw [upd_ne (fun z => mm (by simp [z]))]; exact k7 b u e) (by rw [upd_ne GL, upd_ne (Ne.symm nbG), upd_same]) (by rw [upd_ne bL, upd_same]) upd_same
                          exact qo _ (by rw [tl2, if_pos (by omega)]) Z' _ zz S5
          · have w1 : ¬ wd ws 0 = "house" := fun z => c2 (congrArg V.str z)
            have tl : takeLine st ws = if wd ws 0 = "held" ∧ st.canG = true then takeG st ws else .error 0 := by
              unfold takeLine
              rw [if_neg (fun q => w0 q.1), if_neg (fun q => w1 q.1)]
            refine ⟨fun b H3 => b = (!(decide (wd ws 0 = "held") && st.canG)) ∧ Same H2 H3, ?_, ?_⟩
            · refine ⟨_, rfl, wl, _, _, _, rfl, rfl, SqL.of (s1 _ _ hw), at0, rfl, _, rfl, iteDN (fun c3 => ?_) (fun c3 => ?_)⟩
              · exact ⟨by rw [decide_eq_false (fun z => c3 (congrArg V.str z))]; rfl, Same.refl _⟩
              · have w3 : wd ws 0 = "held" := V.str.inj c3
                refine ⟨_, rfl, Nat.zero_le _, fun e ne => ?_⟩
                have sa := Same.new (o := .lst []) ne
                refine ⟨L, e, us, rfl, rfl, SqL.of (sa _ _ hL), SqL.of upd_same, _, rfl, ?_⟩
                rw [if_neg Bool.false_ne_true]
                by_cases cu : us = []
                · rw [show us.isEmpty = true by rw [cu]; rfl]
                  exact iteT ⟨by rw [I.g0 cu, Bool.and_false]; rfl, sa⟩
                · rw [show us.isEmpty = false by cases us with | nil => exact absurd rfl cu | cons _ _ => rfl]
                  obtain ⟨us', b, G, gs, pn, hd, h, eu, hc, hb, hG, hgs, nG, l12, key⟩ := I.g1 cu
                  have ka : Same H _ := s1.trans sa
                  refine iteF ⟨_, rfl, _, rfl, L, _, _, _, rfl, rfl, SqL.of (sa _ _ hL), by rw [eu]; exact atI_last _ _, b, _, _, _, rfl, rfl, SqL.of (ka _ _ hb), atI_nat (j := 2) rfl, G, _, rfl, .inl (SqL.of (ka _ _ hG)), rfl, _, rfl, ?_, sa⟩
                  have eg : st.canG = decide (h.2.2.length < 12) := by
                    unfold Rl.canG
                    rw [hc]
                  rw [eg, decide_eq_true w3, Bool.true_and, ← hgs.length]
                  rw [← hgs.length] at l12
                  refine (dec_len gs.length 12).trans ?_
                  by_cases z : gs.length = 12
                  · rw [decide_eq_true z, decide_eq_false (by omega)]
                    rfl
                  · rw [decide_eq_false z, decide_eq_true (by omega)]
                    rfl
            · rintro b H3 ⟨rfl, s3⟩
              have k3 : Same H H3 := s1.trans s3
              refine iteBN (fun c => ?_) (fun c => ?_)
              · have nn : ¬ (wd ws 0 = "held" ∧ st.canG = true) := fun q => by
                  rw [decide_eq_true q.1, q.2] at c
                  cases c
                exact qe 0 (by rw [tl, if_neg nn]) H3 (S.zh.trans k3)
              · obtain ⟨c1', c2'⟩ := Bool.and_eq_true_iff.mp c
                rw [if_pos ⟨of_decide_eq_true c1', c2'⟩] at tl
                have cu : us ≠ [] := fun z => by
                  rw [I.g0 z] at c2'
                  cases c2'
                obtain ⟨us', b, G, gs, pn, hd, h, eu, hc, hb, hG, hgs, nG, l12, key⟩ := I.g1 cu
                have el : st.least = leastOf h.2.2 := by
                  unfold Rl.least
                  rw [hc]
                  rfl
                refine ⟨_, rfl, _, rfl, L, _, _, _, rfl, rfl, SqL.of (s3 _ _ hL), by rw [eu]; exact atI_last _ _, b, _, _, _, rfl, rfl, SqL.of (k3 _ _ hb), atI_nat (j := 2) rfl, _, rfl, _, rfl, ?_⟩
                refine ⟨G, wl, gs, h.2.2, ws, rfl, k3 _ _ hG, hgs.mono (HeldAt.mono k3), Nat.le_trans l12 (by decide), k3 _ _ hw, sh, fun cn H4 s4 => ?_, fun cn => ⟨fun c2 H4 s4 => ?_, fun f hf => ⟨fun c2 H4 s4 => ?_, fun t ht => ⟨fun c2 H4 s4 => ?_, fun c2 H4 p s4 np => ?_⟩⟩⟩⟩
                · exact qe 1 (by rw [tl]; unfold takeG; rw [cn]; rfl) H4 (S.zh.trans (k3.trans s4))
                · exact qe 2 (by rw [tl]; unfold takeG; rw [if_pos cn, el, c2]) H4 (S.zh.trans (k3.trans s4))
                · refine qe 3 ?_ H4 (S.zh.trans (k3.trans s4))
                  rw [tl]
                  unfold takeG
                  rw [if_pos cn, el, hf]
                  show (match numIn (wd ws 3) f 360 with | none => _ | some t => _) = _
                  rw [c2]
                · refine qe 4 ?_ H4 (S.zh.trans (k3.trans s4))
                  rw [tl]
                  unfold takeG
                  rw [if_pos cn, el, hf]
                  show (match numIn (wd ws 3) f 360 with | none => _ | some t => _) = _
                  rw [ht]
                  exact if_neg (by omega)
                · have k4 := k3.trans s4
                  have s5 := Same.new (o := .tup [.str (wd ws 1), .int f, .int t]) np
                  have k5 := k4.trans s5
                  have pG : p ≠ G := (ne_of_none (k4 _ _ hG) np).symm
                  obtain ⟨Z', zz, S5⟩ := key (wd ws 1, f, t) p (upd (upd H4 p (.tup [.str (wd ws 1), .int f, .int t])) G (.lst (gs ++ [.ref p]))) (k4.free np) (fun b u mm e => by rw [upd_ne (fun z => mm (by simp [z]))]; exact k5 b u e) (by rw [upd_ne pG, upd_same]) upd_same
                  refine qo _ ?_ Z' _ zz S5
                  rw [tl]
                  unfold takeG
                  rw [if_pos cn, el, hf]
                  show (match numIn (wd ws 3) f 360 with | none => _ | some t => _) = _
                  rw [ht]
                  exact if_pos c2
end
end Pr
end

section
set_option Elab.async false
set_option linter.all false
set_option maxRecDepth 100000
set_option maxHeartbeats 4000000
/-! The law's own reader: the whole text. -/
namespace Pr
open PySem L2
section
variable {P : Program} {w : World} {K : PySem.W.Frag} {mg : Str → Option Value} {base : Heap}
def spDue (K : PySem.W.Frag) : Sp := fun vs H Q _ => ∃ v : V, vs = [v] ∧ ((NoTxt K H v ∧ ∀ p H', Same H H' → H' p = some (.tup [.str "text", .int 0, .int 0]) → Q (.ref p) H') ∨ ∃ z : Str, v = .str z ∧ z.length ≤ 1000000 ∧
  (∀ n k : Nat, readC z = .error (n, k) → ∀ p H', Same H H' → H' p = some (.tup [.str "text", .int (n : Int), .int (k : Int)]) → Q (.ref p) H') ∧
  (∀ ps, readC z = .ok ps → ∀ p c H', Same H H' → H' p = some (.lst [.ref c]) → OCo H' c ps → Q (.ref p) H'))
theorem ok_l_due (T : Txt K mg) : FnOk P w K mg base L2.CX0 4 (a_l_due K) (fdOf K (a_l_due K)) P_l_due (spDue K) := by
  refine T.F_l_due.ok sc_l_due (fun vs H Q E h => ?_) (fun cdv A outer s H vs Q E hr h => ?_)
  · obtain ⟨v, rfl, _⟩ := h
    rfl
  · obtain ⟨v, rfl, h⟩ := h
    have hu := hu_of hr
    refine ⟨_, PSs.nox (pss_cons (ps_if (pt_not (pt_val (pe_callB call_isi (by rfl) T.f_isinstance boot_isi (pa_cons (pv 0) (pa_cons (pe_bltn (v := .ty "str") (by rfl) T.f_str boot_str' rfl) pa_nil))))) (pss_one (ps_ret (pe_tup (pa_cons pe_str (pa_cons pe_int (pa_cons pe_int pa_nil)))))) pss_nil)
      (pss_cons (ps_par (i := 1) (j := 2) (by rfl) sc_l_due.nd rfl rfl (by decide) rfl rfl (pa_cons (pe_lst pa_nil) (pa_cons (pe_split (pv 0) pe_str) pa_nil)) (by rfl))
      (pss_cons (ps_for PassesOwn.never rfl (pi_enum (by rfl) T.f_enumerate (pa_cons (pv 2) pa_nil)) (pg_tup rfl (pgs_cons (pg_name (i := 3) sc_l_due.nd rfl (Or.inl rfl)) (pgs_cons (pg_name (i := 4) sc_l_due.nd rfl (Or.inl rfl)) pgs_nil)))
       (pss_cons (ps_set (i := 5) sc_l_due.nd rfl (Or.inl rfl) (pe_split (pv 4) pe_str))
       (pss_cons (ps_if (pt_cmpR op_in_seq pe_str (pv 5) (by rfl)) (pss_one (ps_ret (pe_tup (pa_cons pe_str (pa_cons (pe_op op_add (pv 3) pe_int) (pa_cons pe_int pa_nil)))))) pss_nil)
       (pss_cons (ps_set (i := 6) sc_l_due.nd rfl (Or.inl rfl) (pe_call (ok_l_line_in T) hr (by rfl) T.g__law_line_in (T.F_l_line_in).kp T.b_l_line_in .nil (E := E0) pass0 (pa_cons (pv 1) (pa_cons (pv 5) pa_nil))))
       (pss_one (ps_if (pt_cmpR op_notN (pv 6) pe_non (nomark _)) (pss_one (ps_ret (pe_tup (pa_cons pe_str (pa_cons (pe_op op_add (pv 3) pe_int) (pa_cons (pe_op op_add (pv 6) pe_int) pa_nil)))))) pss_nil))))))
      (pss_cons (ps_set (i := 7) sc_l_due.nd rfl (Or.inl rfl) pe_int)
      (pss_cons (ps_for PassesOwn.never rfl (pi_list (pv 1)) (pg_unl rfl (pgs_cons (pg_name (i := 8) sc_l_due.nd rfl (Or.inl rfl)) (pgs_cons (pg_name (i := 9) sc_l_due.nd rfl (Or.inl rfl)) pgs_nil)))
       (pss_one (ps_set (i := 7) sc_l_due.nd rfl (Or.inl rfl) (pe_op op_add (pv 7) (pe_callB (cr_sum rfl) (by rfl) T.f_sum boot_sum' (pa_cons (pe_lc (own := [("_law_house", 11)]) (g := gName 11) (tt := tYes) rfl sc_l_due.nd (pi_list (pv 9)) (blkOk_by (N := N_l_due) (sc := defScope s_l_due) (by decide +kernel)) (fun _ _ _ _ _ => pg_name (i := 11) sc_l_due.nd rfl (Or.inl rfl)) (fun _ _ _ _ _ => pts_nil) (fun _ _ _ _ _ => (pe_ix (ix_listK (K := K) rfl) (pv 11) pe_int (fun _ _ => rfl)))) pa_nil))))))
      (pss_cons (ps_if (pt_cut (PW.pt (pw_or (pt_cmpR (op_eqN (Nat.lt_of_succ_lt hu)) (pe_ix ix_list (pe_ix ix_list (pv 1) (pe_un un_neg pe_int) (fun _ _ => rfl)) pe_int (fun _ _ => rfl)) (pe_lst pa_nil) (nomark _)) (pw_or1 (pt_cmpR op_eq (pv 7) pe_int (nomark _)))))) (pss_one (ps_ret (pe_tup (pa_cons pe_str (pa_cons (pe_op op_add (pe_callB call_len_seq (by rfl) T.f_len PySem.boot_len (pa_cons (pv 2) pa_nil)) pe_int) (pa_cons pe_int pa_nil)))))) pss_nil)
      (pss_cons (ps_set (i := 10) sc_l_due.nd rfl (Or.inl rfl) (pe_lst pa_nil))
      (pss_cons (ps_for PassesOwn.never rfl (pi_list (pv 1)) (pg_unl rfl (pgs_cons (pg_name (i := 8) sc_l_due.nd rfl (Or.inl rfl)) (pgs_cons (pg_name (i := 9) sc_l_due.nd rfl (Or.inl rfl)) pgs_nil)))
       (pss_one (ps_expr (pe_bm PySem.F.plainAttrs_list PySem.F.slot_list_append PySem.F.type_list_append mt_append (pv 10) (pa_cons (pe_tup (pa_cons (pv 8) (pa_cons (pe_callTy (call_tupK (K := K) rfl) (by rfl) T.f_tuple boot_tuple' (pa_cons (pe_lc (own := [("_law_house", 11), ("_law_worth_here", 12), ("_law_holdings_here", 13)]) (g := gUnl K 3 (gCons (gName 11) (gCons (gName 12) (gCons (gName 13) gNil)))) (tt := tYes) rfl sc_l_due.nd (pi_list (pv 9)) (blkOk_by (N := N_l_due) (sc := defScope s_l_due) (by decide +kernel)) (fun _ _ _ _ _ => pg_unl rfl (pgs_cons (pg_name (i := 11) sc_l_due.nd rfl (Or.inl rfl)) (pgs_cons (pg_name (i := 12) sc_l_due.nd rfl (Or.inl rfl)) (pgs_cons (pg_name (i := 13) sc_l_due.nd rfl (Or.inl rfl)) pgs_nil)))) (fun _ _ _ _ _ => pts_nil) (fun _ _ _ _ _ => (pe_tup (pa_cons (pv 11) (pa_cons (pv 12) (pa_cons (pe_callTy (call_tupK (K := K) rfl) (by rfl) T.f_tuple boot_tuple' (pa_cons (pv 13) pa_nil)) pa_nil)))))) pa_nil)) pa_nil))) pa_nil)))))
      (pss_one (ps_ret (pe_lst (pa_cons (pe_callTy (call_tupK (K := K) rfl) (by rfl) T.f_tuple boot_tuple' (pa_cons (pv 10) pa_nil)) pa_nil)))))))))))), ?_⟩
    have ts : 3 ≤ sizeLine := by decide
    rcases h with ⟨⟨nm, ty, hk⟩, q⟩ | ⟨z, rfl, hz, qe, qo⟩
    · exact ⟨_, rfl, _, _, _, _, false, rfl, .ty "str", ty, kit_ty hk, false, rfl, iteT ⟨ts, fun p np => q p _ (Same.new np) upd_same⟩⟩
    · obtain ⟨hll, hle⟩ := lines_short hz
      refine ⟨_, rfl, _, _, _, _, true, rfl, .ty "str", .base (.str z), kit_ty (by decide +kernel), true, rfl, iteF ?_⟩
      refine ⟨Nat.zero_le _, fun F nF => ?_⟩
      have S0 : Sto .lst H (upd H F (.lst [])) F [] Rl.empty := ⟨Same.new nF, nF, by simp, fun x hx => by simp at hx, fun x hx => by simp at hx, .none upd_same⟩
      refine ⟨_, rfl, ⟨z, rfl⟩, z, "\n", rfl, rfl, by decide +kernel, by rw [sizeLine_eq]; omega, fun p np => ⟨_, _, rfl, ?_⟩⟩
      have S1 := S0.grow np (Same.new (o := .lst ((linesOf z).map V.str)) np) upd_same
      have np0 : H p = none := S0.zh.free np
      have zH : Same H (upd H p (.lst ((linesOf z).map V.str))) := Same.new np0
      refine ⟨_, rfl, p, _, rfl, SqL.of upd_same, for_it walk_enum (fun i σ H' => ∃ o3 o4 o5 o6 Z st, σ = [some (.str z), some (.ref F), some (.ref p), o3, o4, o5, o6, none, none, none, none, none, none, none] ∧ Same (upd H p (.lst ((linesOf z).map V.str))) Z ∧ Sto .lst Z H' F [] st ∧ st.Wf ∧
          readLines (linesOf z) 0 Rl.empty = readLines ((linesOf z).drop i) i st ∧ (0 < i → st.cur ≠ none))
        ⟨none, none, none, none, _, _, rfl, Same.refl _, S1, Rl.wf_empty, rfl, fun c => absurd c (by decide)⟩ (fun i σ H' _ ⟨_, _, _, _, Z, st, _, s, R, _⟩ => SqL.of (R.zh _ _ (s _ _ upd_same))) ?_ ?_⟩
      · rintro i x σ H2 H3 hi ⟨o3, o4, o5, o6, Z, st, rfl, zz, S, W, er, _⟩ ⟨t, xi, xl, rfl, nt, rfl, exi, exl⟩
        have s3 : Same H2 (upd H2 t (.tup [xi, xl])) := Same.new nt
        cases exi
        obtain ⟨ln, hln, rfl⟩ : ∃ ln, (linesOf z)[i]? = some ln ∧ xl = V.str ln := by
          have exl : ((linesOf z).map V.str)[i]? = some xl := exl
          rw [List.getElem?_map] at exl
          cases q : (linesOf z)[i]? with
          | none => rw [q] at exl; cases exl
          | some u =>
            rw [q] at exl
            exact ⟨u, rfl, (Option.some.inj exl).symm⟩
        have hil : i < (linesOf z).length := (List.getElem?_eq_some_iff.mp hln).1
        have edrop : (linesOf z).drop i = ln :: (linesOf z).drop (i + 1) := by
          rw [List.drop_eq_getElem_cons hil]
          congr 1
          exact (List.getElem?_eq_some_iff.mp hln).2
        have hlen : ln.length ≤ 1000000 := hle ln (List.mem_of_getElem? hln)
        have zb : Same H Z := zH.trans zz
        have zb2 : Same H H2 := zb.trans S.zh
        refine ⟨t, _, rfl, SqT.of upd_same, rfl, _, _, rfl, _, _, rfl, rfl, ?_⟩
        refine ⟨_, rfl, ⟨ln, rfl⟩, ln, " ", rfl, rfl, by decide +kernel, by rw [sizeLine_eq]; omega, fun pw npw => ?_⟩
        have s4 : Same (upd H2 t (.tup [.int i, .str ln])) (upd (upd H2 t (.tup [.int i, .str ln])) pw (.lst ((wordsOf ln).map V.str))) := Same.new npw
        have k4 := zb2.trans (s3.trans s4)
        refine ⟨_, rfl, pw, _, rfl, .inl (SqL.of upd_same), rfl, strs_flat _, _, rfl, ?_⟩
        rw [show (if false then !inV (V.str "") ((Txt.split ln " ").map V.str) else inV (V.str "") ((Txt.split ln " ").map V.str)) = decide (("" : Str) ∈ wordsOf ln) from inV_strs _ _]
        refine iteD (fun he => ?_) (fun hne => ?_)
        · have rr : readC z = .error (i + 1, 0) := by
            unfold readC
            rw [er, edrop]
            unfold readLines
            rw [if_pos he]
          refine ⟨_, rfl, _, _, rfl, rfl, ts, fun q nq => ?_⟩
          exact qe _ _ rr q _ (k4.trans (Same.new nq)) upd_same
        · have S3 : Sto .lst (upd Z pw (.lst ((wordsOf ln).map V.str))) (upd (upd H2 t (.tup [.int i, .str ln])) pw (.lst ((wordsOf ln).map V.str))) F [] st := (S.same s3).grow npw s4 upd_same
          have zc : Same Z (upd Z pw (.lst ((wordsOf ln).map V.str))) := Same.new (S.zh.free (s3.free npw))
          refine ⟨_, rfl, _, rfl, F, pw, _, wordsOf ln, st, rfl, S3, W, upd_same, words_short hlen, PyProof.Rows.split_pos ln " ", fun k hk H' s' => ?_, fun st' hk Z' H' zz' S' => ?_⟩
          · have rr : readC z = .error (i + 1, k + 1) := by
              unfold readC
              rw [er, edrop]
              unfold readLines
              rw [if_neg hne, hk]
            refine ⟨_, rfl, rfl, _, rfl, iteT ?_⟩
            refine ⟨_, rfl, _, _, rfl, rfl, _, rfl, _, _, rfl, rfl, ts, fun q nq => ?_⟩
            exact qe _ _ rr q _ ((zb.trans (zc.trans s')).trans (Same.new nq)) upd_same
          · refine ⟨_, rfl, rfl, _, rfl, iteF ⟨_, _, _, _, Z', st', rfl, (zz.trans zc).trans zz', S', wf_takeLine W hk, ?_, fun _ => take_cur hk⟩⟩
            rw [er, edrop]
            show (if ("" : Str) ∈ wordsOf ln then _ else match takeLine st (wordsOf ln) with | .error k => _ | .ok st' => _) = _
            rw [if_neg hne, hk]
      · rintro σ H2 ⟨o3, o4, o5, o6, Z, st, rfl, zz, S, W, er, hcur⟩
        rw [List.length_map, List.drop_length] at er
        have hc := hcur (by rw [List.length_map]; exact PyProof.Rows.split_pos z "\n")
        have er : readLines (linesOf z) 0 Rl.empty = .ok st := er
        have zb : Same H H2 := (zH.trans zz).trans S.zh
        have hp2 : H2 p = some (.lst ((linesOf z).map V.str)) := S.zh _ _ (zz _ _ upd_same)
        obtain ⟨fs, hF, hco⟩ := S.co
        have hco := hco.mono (ParAt.mono (hide_same _ _))
        have hwle : ∀ ps : List Parish, True := fun _ => True.intro
        refine ⟨_, rfl, F, rfl, ⟨fs, SqL.of hF⟩, for_list (K := K) (a := F) (xs := fs) (fun i σ H' => ∃ o8 o9, σ = [some (.str z), some (.ref F), some (.ref p), o3, o4, o5, o6, some (.int (wsOf (st.all.take i)).sum), o8, o9, none, none, none, none] ∧ Same H2 H')
          ⟨none, none, rfl, Same.refl _⟩ (fun i σ H' _ ⟨_, _, _, s⟩ => SqL.of (s _ _ hF)) ?_ ?_⟩
        · rintro i x σ H3 hx ⟨o8, o9, rfl, s3⟩
          obtain ⟨pr, hp, b, Lb, ub, rfl, hb, hLb, hub⟩ := hco.get hx
          refine ⟨b, _, rfl, SqL.of (s3 _ _ hb), rfl, _, _, rfl, _, _, rfl, rfl, ?_⟩
          refine ⟨_, rfl, _, rfl, Lb, rfl, ⟨ub, SqL.of (s3 _ _ hLb)⟩, fun D nD => lc_T (HouseAt .lst H2) (fun _ v h => v = .int h.2.1) (fun _ _ _ _ _ h => h) nD (SqL.of (s3 _ _ hLb)) hub ?_ ?_ ?_⟩
          · exact Nat.le_of_lt (sz (Nat.le_trans (W.each pr (List.mem_of_getElem? hp)).2.1 (by decide)))
          · rintro x h Hc N ⟨a', G', gs', rfl, h1, _⟩ _ kc hN
            exact ⟨rfl, _, rfl, a', _, _, _, rfl, rfl, SqL.of (kc _ _ (s3 _ _ h1)), atI_nat (j := 1) rfl, hN _ _ (Same.refl _) rfl⟩
          · intro H5 acc s5 hD hacc
            have ea : acc = (pr.2.map (·.2.1)).map V.int := by
              rw [all_eq_map (f := fun h : House => V.int h.2.1) hacc, List.map_map]
              rfl
            subst ea
            refine ⟨D, _, rfl, SqL.of hD, _, _, rfl, rfl, some (.str pr.1), some (.ref Lb), ?_, s3.trans s5⟩
            rw [take_succ' hp, wsOf_append, wsOf_one, List.sum_append]
            rfl
        · rintro σ H3 ⟨o8, o9, rfl, s3⟩
          rw [hco.length, List.take_length]
          obtain ⟨c0, hc0⟩ : ∃ c0, st.cur = some c0 := by
            cases hq : st.cur with
            | none => exact absurd hq hc
            | some c => exact ⟨c, rfl⟩
          obtain ⟨fs2, a, L, us, hF2, ha, hL, _, _, elen, _⟩ := S.addH hc0
          rw [hF] at hF2
          cases hF2
          have esh : st.short = (c0.houses.isEmpty || decide (st.worth = 0)) := by
            unfold Rl.short
            rw [hc0]
          refine ⟨fun b H4 => b = st.short ∧ Same H3 H4, ?_, ?_⟩
          · refine ⟨_, rfl, _, rfl, F, _, _, _, rfl, rfl, SqL.of (s3 _ _ hF), atI_last _ _, a, _, _, _, rfl, rfl, SqL.of (s3 _ _ ha), atI_nat (j := 1) rfl, Nat.zero_le _, fun e ne => ?_⟩
            have sa := Same.new (o := .lst []) ne
            refine ⟨L, e, us, rfl, rfl, SqL.of (sa _ _ (s3 _ _ hL)), SqL.of upd_same, _, rfl, ?_⟩
            rw [show (if false then !us.isEmpty else us.isEmpty) = c0.houses.isEmpty from empty_len elen]
            refine iteB (fun c1 => ?_) (fun c1 => ?_)
            · exact ⟨by rw [esh, c1]; rfl, sa⟩
            · refine ⟨_, rfl, rfl, _, rfl, ?_, sa⟩
              rw [esh, c1, Bool.false_or]
              show decide (V.int st.worth = V.int 0) = decide (st.worth = 0)
              by_cases z : st.worth = 0
              · rw [decide_eq_true z, z]
                rfl
              · rw [decide_eq_false z, decide_eq_false (fun q => z (V.int.inj q))]
          · rintro b H4 ⟨rfl, s4⟩
            have k4 := s3.trans s4
            refine iteB (fun hs => ?_) (fun hs => ?_)
            · have rr : readC z = .error ((linesOf z).length + 1, 1) := by
                unfold readC
                rw [er]
                show (if st.short = true then _ else _) = _
                rw [if_pos hs]
              refine ⟨_, rfl, p, _, rfl, .inl (SqL.of (k4 _ _ hp2)), _, _, rfl, rfl, ts, fun q nq => qe _ _ rr q _ ((zb.trans k4).trans (Same.new nq)) ?_⟩
              rw [upd_same, List.length_map]
              rfl
            · have rr : readC z = .ok st.all := by
                unfold readC
                rw [er]
                show (if st.short = true then _ else _) = _
                rw [if_neg (by rw [hs]; exact Bool.false_ne_true)]
              refine ⟨Nat.zero_le _, fun R nR => ?_⟩
              refine ⟨_, rfl, F, rfl, ⟨_, SqL.of ((Same.new nR) _ _ (k4 _ _ hF))⟩, for_list (K := K) (a := F) (xs := fs2 ++ [.ref a])
                (fun i σ H' => ∃ o8 o9, σ = [some (.str z), some (.ref F), some (.ref p), o3, o4, o5, o6, some (.int (wsOf st.all).sum), o8, o9, some (.ref R), none, none, none] ∧ LT OPar H4 H' R (st.all.take i)) ⟨_, _, rfl, LT.nil nR⟩ (fun i σ H' _ ⟨_, _, _, t⟩ => SqL.of (t.same _ _ (k4 _ _ hF))) ?_ ?_⟩
              · rintro i x σ H' hx ⟨o8, o9, rfl, t⟩
                obtain ⟨pr, hp, b, L, us, rfl, hb, hL, hus⟩ := hco.get hx
                have k0 : Same H2 H' := k4.trans t.same
                refine ⟨b, _, rfl, SqL.of (k0 _ _ hb), rfl, _, _, rfl, _, _, rfl, rfl, ?_⟩
                obtain ⟨acc0, hR0, qa0⟩ := t.at_
                refine ⟨_, rfl, .inl ⟨rfl, _, SqL.of hR0⟩, _, rfl, _, rfl, L, rfl, ⟨us, SqL.of (k0 _ _ hL)⟩, fun D nD => lc_T (HouseAt .lst H2) OHouse ohouseT nD (SqL.of (k0 _ _ hL)) hus ?_ ?_ ?_⟩
                · exact Nat.le_of_lt (sz (Nat.le_trans (W.each pr (List.mem_of_getElem? hp)).2.1 (by decide)))
                · rintro x g Hc N ⟨a', G, ws, rfl, h1, h2, h3⟩ _ kc hN
                  have k1 := k0.trans kc
                  refine ⟨a', _, rfl, SqL.of (k1 _ _ h1), rfl, _, _, rfl, _, _, rfl, _, _, rfl, rfl, rfl, _, rfl, _, rfl, _, rfl, G, ws, rfl, .inl ⟨SqL.of (k1 _ _ h2), fun c nc => ⟨ts, fun t' nt => ?_⟩⟩⟩
                  obtain ⟨ntc, nt'⟩ := new_upd nt
                  have k2 : Same Hc (upd (upd Hc c (.tup ws)) t' (.tup [.str g.1, .int g.2.1, .ref c])) := (Same.new nc).trans (Same.new nt)
                  exact hN _ _ k2 ⟨t', c, ws, rfl, upd_same, by rw [upd_ne (Ne.symm ntc), upd_same], h3.mono (HeldAt.mono (k1.trans k2))⟩
                · intro H5 acc k2 hD hacc
                  refine ⟨D, acc, rfl, .inl ⟨SqL.of hD, fun c nc => ⟨(by show 2 ≤ sizeLine; decide), fun t' nt => ?_⟩⟩⟩
                  obtain ⟨ntc, nt'⟩ := new_upd nt
                  have k3 : Same H5 (upd (upd H5 c (.tup acc)) t' (.tup [.str pr.1, .ref c])) := (Same.new nc).trans (Same.new nt)
                  refine ⟨R, acc0, _, rfl, rfl, k3 _ _ (k2 _ _ hR0), sz (by rw [qa0.length, List.length_take]; have := W.few; omega), ?_⟩
                  refine ⟨_, _, rfl, ?_⟩
                  rw [take_succ' hp]
                  exact LT.step oparT nR t hR0 (k2.trans k3) ⟨t', c, acc, rfl, upd_same, by rw [upd_ne (Ne.symm ntc), upd_same], hacc.mono (ohouseT _ _ (Same.tups k3))⟩
              · rintro σ H' ⟨o8, o9, rfl, t⟩
                rw [hco.length, List.take_length] at t
                obtain ⟨acc, hR, qa⟩ := t.at_
                refine ⟨_, rfl, R, acc, rfl, .inl ⟨SqL.of hR, fun c nc => ⟨(by show 1 ≤ sizeLine; decide), fun q nq => ?_⟩⟩⟩
                have sn := (Same.new (o := .tup acc) nc).trans (Same.new (o := .lst [.ref c]) nq)
                exact qo _ rr q c _ ((zb.trans k4).trans (t.same.trans sn)) upd_same ⟨acc, (Same.new nq) _ _ upd_same, qa.mono (oparT _ _ (Same.tups sn))⟩
end
end Pr
end

section
set_option Elab.async false
set_option linter.all false
set_option maxRecDepth 100000
set_option maxHeartbeats 4000000
/-! What the law tells of a refusal. -/
namespace Pr
open PySem L2
section
variable {P : Program} {w : World} {K : PySem.W.Frag} {mg : Str → Option Value} {base : Heap}
def spClass (K : PySem.W.Frag) : Sp := fun vs H Q _ => ∃ (a d : Addr) (n k : Int), vs = [.ref a] ∧ H a = some (ExK (.ref (He.ga K "BadText")) (some d) a) ∧ H d = some (.xd (xW n k)) ∧ ∀ p H', Same H H' → H' p = some (.tup [.str "text", .int n, .int k]) → Q (.ref p) H'
theorem xW_line (n k : Int) : (xW n k).lookup ("line" : Str) = some (V.int n) := by
  unfold xW
  rw [lk_cons, if_neg (by decide +kernel), lk_cons, if_pos rfl]
theorem xW_word (n k : Int) : (xW n k).lookup ("word" : Str) = some (V.int k) := by
  unfold xW
  rw [lk_cons, if_pos rfl]
theorem rel_ref {a : Addr} : ∀ u, RelV (.ref a) u → u = Value.ref a := fun _ r => r
theorem rel_ty {n : String} : ∀ u, RelV (.ty n) u → u = Value.type n := fun _ r => r
def rI1 : List V → Hp → VK → Prop := fun xs H Q => (∃ i, xs = [.int i] ∧ Q (.int i) H) ∨ ∃ k, xs = [.bl k] ∧ Q (.int (if k then 1 else 0)) H
/-- 'word' * int(isinstance(error, C)) -/
theorem tm {σ : L2.St} {H : Hp} {Q : VK} {a d X D : Addr} {n k : Int} {s : Str} {b : Bool} (hσ : σ[0]? = some (some (.ref a))) (ha : H a = some (ExK (.ref D) (some d) a)) (hd : H d = some (.xd (xW n k))) (hk : PySem.W.kitOne K (.ref D) (.ref X) = some b) (hs : s.length ≤ 100)
    (q : Q (.str (if b = true then s else Str.empty)) H) : tOp rMulS (tC (.str s)) (tCB rI1 (tCons (tCB (rIsK K D) (tCons (tVar 0) (tCons (tC (.ref X)) tNil))) tNil)) σ H Q := by
  refine ⟨_, hσ, a, d, _, _, _, b, rfl, ha, hd, rel_ref, hk, .inr ⟨_, rfl, ?_⟩⟩
  refine ⟨_, _, rfl, rfl, ?_, ?_, hs, ?_⟩
  · cases b <;> decide
  · cases b <;> decide
  · cases b with
    | false => exact q
    | true => exact q
theorem ok_l_class (T : Txt K mg) : FnOk P w K mg base L2.CX0 1 (a_l_class K) (fdOf K (a_l_class K)) P_l_class (spClass K) := by
  refine T.F_l_class.ok sc_l_class (fun vs H Q E h => ?_) (fun cdv A outer s H vs Q E hr h => ?_)
  · obtain ⟨a, d, n, k, rfl, _⟩ := h
    rfl
  · obtain ⟨a, d, n, k, rfl, ha, hd, q⟩ := h
    refine ⟨_, pss_cons (ps_set (i := 1) sc_l_class.nd rfl (Or.inl rfl) (pe_op op_add_str (pe_op op_mulS pe_str (pe_callTy call_int1 (by rfl) T.f_int boot_int' (pa_cons (pe_callB (call_isK T.excC) (by rfl) T.f_isinstance boot_isi (pa_cons (pv 0) (pa_cons (pe_glob (v := .ref (He.ga K "BadName")) (by rfl) T.g_BadName rfl) pa_nil))) pa_nil))) (pe_op op_mulS pe_str (pe_callTy call_int1 (by rfl) T.f_int boot_int' (pa_cons (pe_callB (call_isK T.excC) (by rfl) T.f_isinstance boot_isi (pa_cons (pv 0) (pa_cons (pe_glob (v := .ref (He.ga K "BadSum")) (by rfl) T.g_BadSum rfl) pa_nil))) pa_nil)))))
      (pss_cons (ps_set (i := 1) sc_l_class.nd rfl (Or.inl rfl) (pe_op op_add_str (pe_op op_add_str (pv 1) (pe_op op_mulS pe_str (pe_callTy call_int1 (by rfl) T.f_int boot_int' (pa_cons (pe_callB (call_isK T.excC) (by rfl) T.f_isinstance boot_isi (pa_cons (pv 0) (pa_cons (pe_glob (v := .ref (He.ga K "BadWeights")) (by rfl) T.g_BadWeights rfl) pa_nil))) pa_nil)))) (pe_op op_mulS pe_str (pe_callTy call_int1 (by rfl) T.f_int boot_int' (pa_cons (pe_callB (call_isK T.excC) (by rfl) T.f_isinstance boot_isi (pa_cons (pv 0) (pa_cons (pe_glob (v := .ref (He.ga K "BadHalf")) (by rfl) T.g_BadHalf rfl) pa_nil))) pa_nil)))))
      (pss_cons (ps_set (i := 1) sc_l_class.nd rfl (Or.inl rfl) (pe_op op_add_str (pe_op op_add_str (pv 1) (pe_op op_mulS pe_str (pe_callTy call_int1 (by rfl) T.f_int boot_int' (pa_cons (pe_callB (call_isK T.excC) (by rfl) T.f_isinstance boot_isi (pa_cons (pv 0) (pa_cons (pe_glob (v := .ref (He.ga K "BadDay")) (by rfl) T.g_BadDay rfl) pa_nil))) pa_nil)))) (pe_op op_mulS pe_str (pe_callTy call_int1 (by rfl) T.f_int boot_int' (pa_cons (pe_callB (call_isK T.excC) (by rfl) T.f_isinstance boot_isi (pa_cons (pv 0) (pa_cons (pe_glob (v := .ref (He.ga K "BadCounty")) (by rfl) T.g_BadCounty rfl) pa_nil))) pa_nil)))))
      (pss_cons (ps_set (i := 1) sc_l_class.nd rfl (Or.inl rfl) (pe_op op_add_str (pe_op op_add_str (pv 1) (pe_op op_mulS pe_str (pe_callTy call_int1 (by rfl) T.f_int boot_int' (pa_cons (pe_callB (call_isK T.excC) (by rfl) T.f_isinstance boot_isi (pa_cons (pv 0) (pa_cons (pe_glob (v := .ref (He.ga K "BadExcused")) (by rfl) T.g_BadExcused rfl) pa_nil))) pa_nil)))) (pe_op op_mulS pe_str (pe_callTy call_int1 (by rfl) T.f_int boot_int' (pa_cons (pe_callB (call_isK T.excC) (by rfl) T.f_isinstance boot_isi (pa_cons (pv 0) (pa_cons (pe_glob (v := .ref (He.ga K "BadAppeal")) (by rfl) T.g_BadAppeal rfl) pa_nil))) pa_nil)))))
      (pss_cons (ps_set (i := 1) sc_l_class.nd rfl (Or.inl rfl) (pe_op op_add_str (pv 1) (pe_op op_mulS pe_str (pe_callTy call_int1 (by rfl) T.f_int boot_int' (pa_cons (pe_callB (call_isK T.excC) (by rfl) T.f_isinstance boot_isi (pa_cons (pv 0) (pa_cons (pe_glob (v := .ref (He.ga K "BadText")) (by rfl) T.g_BadText rfl) pa_nil))) pa_nil)))))
      (pss_cons (ps_if (PW.pt (pw_or (pt_not (pt_val (pe_callB (call_isK T.excC) (by rfl) T.f_isinstance boot_isi (pa_cons (pv 0) (pa_cons (pe_bltn (v := .ty "ValueError") (by rfl) T.f_ValueError boot_VE' rfl) pa_nil))))) (pw_or1 (pt_not (pt_val (pe_callB (call_isK T.excC) (by rfl) T.f_isinstance boot_isi (pa_cons (pv 0) (pa_cons (pe_glob (v := .ref (He.ga K "RollError")) (by rfl) T.g_RollError rfl) pa_nil)))))))) (pss_one (ps_ret (pe_tup (pa_cons pe_str pa_nil)))) pss_nil)
      (pss_cons (ps_if (pt_not (pt_val (pe_callB (call_isK T.excC) (by rfl) T.f_isinstance boot_isi (pa_cons (pv 0) (pa_cons (pe_glob (v := .ref (He.ga K "BadText")) (by rfl) T.g_BadText rfl) pa_nil))))) (pss_one (ps_ret (pe_tup (pa_cons (pv 1) pa_nil)))) pss_nil)
      (pss_cons (ps_set (i := 2) sc_l_class.nd rfl (Or.inl rfl) (pe_tup (pa_cons (pe_kx T.xf T.na_BadText_line (pv 0)) (pa_cons (pe_kx T.xf T.na_BadText_word (pv 0)) pa_nil))))
      (pss_one (ps_ret (pe_ifExp (PW.pt (pw_and (pt_not (pt_val (pe_callB call_isi (by rfl) T.f_isinstance boot_isi (pa_cons (pe_ix ix_tup (pv 2) pe_int (fun _ _ => rfl)) (pa_cons (pe_bltn (v := .ty "bool") (by rfl) T.f_bool boot_bool' rfl) pa_nil))))) (pw_and1 (pt_not (pt_val (pe_callB call_isi (by rfl) T.f_isinstance boot_isi (pa_cons (pe_ix ix_tup (pv 2) pe_int (fun _ _ => rfl)) (pa_cons (pe_bltn (v := .ty "bool") (by rfl) T.f_bool boot_bool' rfl) pa_nil)))))))) (pe_op op_catT (pe_tup (pa_cons (pv 1) pa_nil)) (pv 2)) (pe_tup (pa_cons pe_str pa_nil)))))))))))), ?_⟩
    have kit : ∀ (nm : Str) (b : Bool), (nm, b) ∈ kits → PySem.W.kitOne K (.ref (He.ga K "BadText")) (.ref (He.ga K nm)) = some b := fun nm b h => T.kit h
    have e1 : ∀ nm, (nm, false) ∈ kits → PySem.W.kitOne K (.ref (He.ga K "BadText")) (.ref (He.ga K nm)) = some false := fun nm h => kit nm false h
    refine tm rfl ha hd (e1 _ (by decide +kernel)) (by decide +kernel) (tm rfl ha hd (e1 _ (by decide +kernel)) (by decide +kernel) ⟨_, _, rfl, rfl, by rw [sizeLine_eq]; decide +kernel, ?_⟩)
    refine ⟨_, rfl, tm rfl ha hd (e1 _ (by decide +kernel)) (by decide +kernel) ⟨_, _, rfl, rfl, by rw [sizeLine_eq]; decide +kernel, tm rfl ha hd (e1 _ (by decide +kernel)) (by decide +kernel) ⟨_, _, rfl, rfl, by rw [sizeLine_eq]; decide +kernel, ?_⟩⟩⟩
    refine ⟨_, rfl, tm rfl ha hd (e1 _ (by decide +kernel)) (by decide +kernel) ⟨_, _, rfl, rfl, by rw [sizeLine_eq]; decide +kernel, tm rfl ha hd (e1 _ (by decide +kernel)) (by decide +kernel) ⟨_, _, rfl, rfl, by rw [sizeLine_eq]; decide +kernel, ?_⟩⟩⟩
    refine ⟨_, rfl, tm rfl ha hd (e1 _ (by decide +kernel)) (by decide +kernel) ⟨_, _, rfl, rfl, by rw [sizeLine_eq]; decide +kernel, tm rfl ha hd (e1 _ (by decide +kernel)) (by decide +kernel) ⟨_, _, rfl, rfl, by rw [sizeLine_eq]; decide +kernel, ?_⟩⟩⟩
    refine ⟨_, rfl, tm rfl ha hd (kit _ true (by decide +kernel)) (by decide +kernel) ⟨_, _, rfl, rfl, by rw [sizeLine_eq]; decide +kernel, ?_⟩⟩
    refine ⟨_, rfl, a, d, _, _, _, true, rfl, ha, hd, rel_ty, T.kitV, true, rfl, iteF ?_⟩
    refine ⟨_, rfl, a, d, _, _, _, true, rfl, ha, hd, rel_ref, kit _ true (by decide +kernel), true, rfl, iteF ?_⟩
    refine ⟨_, rfl, a, d, _, _, _, true, rfl, ha, hd, rel_ref, kit _ true (by decide +kernel), true, rfl, iteF ?_⟩
    refine ⟨_, rfl, a, d, _, _, rfl, ha, hd, xW_line n k, _, rfl, a, d, _, _, rfl, ha, hd, xW_word n k, (by show 2 ≤ sizeLine; decide), fun p np => ?_⟩
    refine ⟨_, rfl, p, _, _, _, rfl, rfl, SqT.of upd_same, atI_nat (j := 0) rfl, _, _, _, _, false, rfl, .ty "bool", .base (.int n), kit_ty (by decide +kernel), false, rfl, iteT ?_⟩
    refine ⟨_, rfl, p, _, _, _, rfl, rfl, SqT.of upd_same, atI_nat (j := 1) rfl, _, _, _, _, false, rfl, .ty "bool", .base (.int k), kit_ty (by decide +kernel), false, rfl, iteT ?_⟩
    refine ⟨_, rfl, (by show 1 ≤ sizeLine; decide), fun p2 np2 => ⟨_, rfl, p2, p, _, _, rfl, rfl, SqT.of upd_same, SqT.of ((Same.new np2) _ _ upd_same), (fun z => nomatch z), (by show 3 ≤ sizeLine; decide), (fun z => nomatch z), fun _ p3 np3 => ?_⟩⟩
    refine q p3 _ ((Same.new np).trans ((Same.new np2).trans (Same.new np3))) ?_
    rw [upd_same]
    exact congrArg (fun x => some (HO.tup [V.str x, V.int n, V.int k])) (by decide +kernel)
end
end Pr
end

section
set_option Elab.async false
set_option linter.all false
set_option maxRecDepth 100000
set_option maxHeartbeats 4000000
/-! _law_told: what it makes of the lambda it got. -/
namespace Pr
open PySem L2
theorem takes_len {X : Cx} {W : WX} (t : Takes X W) : Takes X (fun cls d σ H => σ.length = X.N.length → W cls d σ H) := fun u s' ⟨a, B, sI, pins, σ, H, cls, d, e, I, nb, up, sky, na, os, ag, w⟩ =>
  t u s' ⟨a, B, sI, pins, σ, H, cls, d, e, I, nb, up, sky, na, os, ag, w I.len⟩
/-- an own refusal, told -/
def eTold (K : PySem.W.Frag) (Q : VK) : XK := fun cls d H' => cls = .ref (He.ga K "BadText") ∧ ∃ dd n k, d = some dd ∧ H' dd = some (.xd (xW n k)) ∧ ∀ p H2, Same H' H2 → H2 p = some (.tup [.str "text", .int n, .int k]) → Q (.ref p) H2
def TTt (K : PySem.W.Frag) : (XK → Hp → VK → Prop) → Hp → VK → Prop := fun tl H Q =>
  ∀ q0, H q0 = none → tl (eTold K Q) (upd H q0 (.lst [])) (fun v H1 => ∀ q, H1 q = none → Q (.ref q) (upd H1 q (.lst [v])))
theorem four {σ : L2.St} (h : σ.length = 4) : ∃ a b c d, σ = [a, b, c, d] := by
  match σ, h with
  | [a, b, c, d], _ => exact ⟨a, b, c, d, rfl⟩
theorem told_G {X : Cx} (T : Txt X.K X.mg) (hr : Room 2 X.A) (cdg : Value) (q : Str) : LamX.GivesTo X N_l_told "_law_told" (defScope s_l_told) (a_l_told X.K) cdg (defBody s_l_told) "_law_deed" q (TTt X.K) := by
  intro f c' s H Q tl act hc h
  have nd := sc_l_told.nd
  have hr' := hr.deeper (PyProof.Rows.envOfC "_law_told" (defScope s_l_told) s.heap.objs.size (a_l_told X.K) cdg)
  refine ⟨_, pss_cons (ps_set (i := 1) nd rfl (Or.inl rfl) pe_non) (pss_cons (ps_set (i := 2) nd rfl (Or.inl rfl) (pe_lst pa_nil))
    (pss_cons (ps_try_keep (i := 3) (j := 1) (Wout := fun _ _ _ _ => False) (c := .ref (He.ga X.K "RollError")) (tb := fun W D σ H => ∃ (Ech : XK) (R : VK), (∀ cls d σ' H', Ech cls d H' → σ'.length = 4 → W cls d σ' H') ∧ σ[0]? = some (some (.ref f)) ∧ H c' = some (LamX.CodeO c' q) ∧ tl Ech H R ∧ ∀ v H1, R v H1 → ∀ p, H1 p = none → D.nx (σ.set 2 (some (.ref p))) (upd H1 p (.lst [v])))
      rfl rfl rfl nd rfl rfl rfl rfl ⟨rfl, by decide, .inl T.g_RollError⟩ LamX.takes0 (by decide) (by decide) (fun W pn xe tk _ => ?_))
    (pss_one (ps_ret (pe_ifExp (pt_cmpR op_isN (pv 1) pe_non (nomark _)) (pv 2) (pe_call (ok_l_class T) hr' (by rfl) T.g__law_class (T.F_l_class).kp T.b_l_class .nil (E := E0) pass0 (pa_cons (pv 1) pa_nil))))))), ?_⟩
  · refine ⟨fun pins s' σ H' D I h' => ?_⟩
    obtain ⟨Ech, R, hW, h1, h2, h3, h4⟩ := h'
    have hp := fun p1 p2 => act (fun cls d σ H => σ.length = 4 → W cls d σ H) pn xe Ech p1 p2 (takes_len tk) (fun cls d σ' H' e l => hW cls d σ' H' e l)
    exact PSs.run (pss_one (ps_set (i := 2) nd rfl (Or.inl rfl) (pe_lst (pa_cons (pe_cut (hp _ _)) pa_nil)))) pins s' σ H' D I ⟨R, ⟨h1, h2, h3⟩, fun v H1 r => ⟨(by show 1 ≤ sizeLine; decide), fun p np => h4 v H1 r p np⟩⟩
  · refine ⟨Nat.zero_le _, fun q0 n0 => ?_⟩
    refine ⟨eTold X.K Q, _, ?_, rfl, (Same.new n0) _ _ hc, h q0 n0, fun v H1 r p np => ?_⟩
    · rintro cls d σ' H' ⟨rfl, dd, n, k, rfl, hd, hQ⟩ l
      obtain ⟨a, b, c, e, rfl⟩ := four l
      refine ⟨true, T.x_BadText_RollError, fun _ x nx => ?_, fun q => nomatch q⟩
      refine ⟨_, rfl, rfl, _, rfl, iteF ?_⟩
      exact ⟨_, rfl, x, dd, n, k, rfl, upd_same, (Same.new nx) _ _ hd, fun p H2 s2 h2 => hQ p H2 ((Same.new nx).trans s2) h2⟩
    · exact ⟨_, rfl, rfl, _, rfl, iteT ⟨_, rfl, r p np⟩⟩
end Pr
end

section
set_option Elab.async false
set_option linter.all false
set_option maxRecDepth 100000
set_option maxHeartbeats 4000000
/-! _law_right answers True. -/
namespace Pr
open PySem L2
/-! ### what is told is short -/
def dErr (n k : Int) : PyData := .tuple [.str "text", .int n, .int k]
def dOk (ps : List Parish) : PyData := .list [dCounty ps]
theorem takeLine_err {st : Rl} {ws : List Str} {k : Nat} (h : takeLine st ws = .error k) : k ≤ 4 := by
  have key : ∀ {x : Except Nat Rl}, x = .error k → (∀ j, x = .error j → j ≤ 4) → k ≤ 4 := fun e f => f k e
  unfold takeLine at h
  split at h
  · unfold takeP at h
    split at h
    · split at h
      · cases h
      · cases h; decide
    · cases h; decide
  · split at h
    · unfold takeH at h
      split at h
      · split at h
        · cases h; decide
        · split at h
          · cases h
          · cases h; decide
      · cases h; decide
    · split at h
      · unfold takeG at h
        split at h
        · split at h
          · cases h; decide
          · split at h
            · cases h; decide
            · split at h
              · cases h
              · cases h; decide
        · cases h; decide
      · cases h; decide
theorem readLines_err : ∀ {ls : List Str} {i : Nat} {st : Rl} {n k : Nat}, readLines ls i st = .error (n, k) → n ≤ i + ls.length ∧ k ≤ 5
  | [], _, _, _, _, h => by cases h
  | l :: ls, i, st, n, k, h => by
    unfold readLines at h
    split at h
    · cases h
      exact ⟨by rw [List.length_cons]; omega, by decide⟩
    · split at h
      · rename_i j hj
        cases h
        have := takeLine_err hj
        exact ⟨by rw [List.length_cons]; omega, by omega⟩
      · have := readLines_err h
        rw [List.length_cons]
        omega
theorem readC_err {z : Str} {n k : Nat} (hz : z.length ≤ 1000000) (h : readC z = .error (n, k)) : n ≤ 2000000 ∧ k ≤ 5 := by
  have hl := (lines_short hz).1
  unfold readC at h
  split at h
  · rename_i e he
    cases h
    have := readLines_err he
    omega
  · split at h
    · cases h
      exact ⟨by omega, by decide⟩
    · cases h
theorem nat_shown {n : Nat} (h : n ≤ 2000000) : ((toString ((n : Nat) : Int) : String) : Str).length ≤ 20 ∧ ((n : Nat) : Int).natAbs.log2 < 1920 := by
  have hn : n < 2 ^ 21 := by omega
  constructor
  · show (Str.ofString (toString ((n : Nat) : Int))).length ≤ 20
    rw [ofString_length]
    have := int_text_length_le10 (a := ((n : Nat) : Int)) (k := 7) (by decide) (by rw [Int.natAbs_natCast]; omega)
    omega
  · rw [Int.natAbs_natCast]
    have : n.log2 < 21 := by
      by_cases z : n = 0
      · subst z
        decide
      · exact (Nat.log2_lt z).mpr hn
    omega
structure Good (d : PyData) : Prop where
  s : d.showable = true
  n : d.hasDict = false
  z : d.depth ≤ 60
  l : d.shown.length ≤ sizeLine
theorem err_good {n k : Nat} (h1 : n ≤ 2000000) (h2 : k ≤ 5) : Good (dErr n k) := by
  have a := nat_shown h1
  have b := nat_shown (n := k) (by omega)
  refine ⟨?_, rfl, ?_, ?_⟩
  · show (true && (decide (((n : Nat) : Int).natAbs.log2 < 1920) && (decide (((k : Nat) : Int).natAbs.log2 < 1920) && true))) = true
    rw [decide_eq_true a.2, decide_eq_true b.2]
    rfl
  · show max 0 (max 0 (max 0 0)) + 1 ≤ 60
    decide
  · show (tupleText [reprText ("text" : Str), ((toString ((n : Nat) : Int) : String) : Str), ((toString ((k : Nat) : Int) : String) : Str)]).length ≤ _
    refine Nat.le_trans (fmt_text _) ?_
    have c : (reprText ("text" : Str)).length ≤ 10 := by decide +kernel
    rw [piled_cons, piled_cons, piled_cons, piled_nil, sizeLine_eq]
    omega
theorem ok_good {ps : List Parish} (h1 : ps.length ≤ 8) (h2 : ∀ p ∈ ps, ParishOk p) : Good (dOk ps) := by
  have a := county_le h1 h2
  refine ⟨?_, ?_, ?_, ?_⟩
  · show ((dCounty ps).showable && true) = true
    rw [county_show h2]
    rfl
  · show ((dCounty ps).hasDict || false) = false
    rw [county_nd]
    rfl
  · have := county_dep ps
    show max (dCounty ps).depth 0 + 1 ≤ 60
    omega
  · show (((("[" : Str) ++ ((if 0 > 0 then ", " else "" : String) : Str) ++ (dCounty ps).shown) ++ ("]" : Str))).length ≤ _
    rw [strLen_append, strLen_append, strLen_append, sizeLine_eq]
    have e1 : ((("[" : String) : Str)).length = 1 := rfl
    have e2 : ((("]" : String) : Str)).length = 1 := rfl
    have e3 : (((if 0 > 0 then ", " else "" : String) : Str)).length = 0 := by decide +kernel
    omega
theorem NoTxt.ext {K : PySem.W.Frag} {H H' : Hp} {v : V} (h : NoTxt K H v) (e : LamX.ExtN H H') : NoTxt K H' v := by
  obtain ⟨n, ty, hk⟩ := h
  refine ⟨n, ?_, hk⟩
  have up : ∀ {a : Addr} {o : HO}, H a = some o → (∀ ps, o ≠ .tbl ps) → H' a = some o := fun h1 h2 => e _ _ h1 h2
  cases ty with
  | base b =>
    refine .base ?_
    generalize hq : Value.type n = q at b
    cases b with
    | non => exact .non
    | bl x => exact .bl x
    | int i => exact .int i
    | str x => exact .str x
    | flt x => exact .flt x
    | lst q => exact .lst (up q (by intro ps z; cases z))
    | frz q => exact .frz (up q (by intro ps z; cases z))
    | tup q => exact .tup (up q (by intro ps z; cases z))
    | dK q => exact .dK (up q (by intro ps z; cases z))
    | dT q => exact .dT (up q (by intro ps z; cases z))
    | ins q c1 c2 c3 c4 c5 => exact .ins (up q (by intro ps z; cases z)) c1 c2 c3 c4 c5
  | byt b => exact .byt b
  | set q => exact .set (up q (by intro ps z; cases z))
  | kList q c => exact .kList q c
  | kTuple q c => exact .kTuple q c
  | kDict q c => exact .kDict q c
  | fTuple q => exact .fTuple (up q (by intro ps z; cases z))
  | fDict q => exact .fDict (up q (by intro ps z; cases z))
theorem Same.extN {H H' : Hp} (s : Same H H') : LamX.ExtN H H' := LamX.ExtN.of s
def spRight (K : PySem.W.Frag) (TT : List (Addr × Str)) : Sp := fun vs H Q _ => ∃ v : V, vs = [v] ∧ (NoTxt K H v ∨ ∃ z : Str, v = .str z ∧ z.length ≤ 1000000) ∧ LamX.Tabs TT H ∧ ∀ H', LamX.ExtN H H' → LamX.Tabs TT H' → Q (.bl true) H'
section
variable {P : Program} {w : World} {K : PySem.W.Frag} {mg : Str → Option Value} {base : Heap}
abbrev qR : Str := ("_law_right" : Str) ++ ".<locals>." ++ "<lambda>"
theorem ok_l_right {c tb : Addr} (T : Txt K mg) (TB : LamX.TabB base mg c tb) (hc : (fdOf K (a_l_right K)).code = .ref c) : FnG P w K mg base 11 (a_l_right K) (fdOf K (a_l_right K)) P_l_right (spRight K [(tb, qR)]) := by
  refine okG T.F_l_right sc_l_right (fun vs H Q E h => ?_) (fun cdv A outer s H vs Q hG hr lk hcd hcode h => ?_)
  · obtain ⟨v, rfl, _⟩ := h
    rfl
  · obtain ⟨v, rfl, hv, hT, k⟩ := h
    rw [hc] at hcode
    subst hcode
    obtain ⟨oc, od, dV, kV, doc, pm, an, cdg, ct, osl, ef, lkt, hct, _, _⟩ := T.F_l_told.ex
    have hbt := T.b_l_told
    rw [ef] at hbt lkt
    refine ⟨_, pss_one (ps_ret (pe_cmpR op_eq (pe_callB (call_reprD hG hr.units) (by rfl) T.f_repr boot_repr' (pa_cons
        (LamX.pe_lamcall (k := 8) (T := [(tb, qR)]) (t := fun E => tCall (spRead K) [] E (tCons (tVar 0) tNil)) (by rfl) T.g__law_told (T.F_l_told).kp lkt hct hbt sc_l_told rfl (.inl rfl) (told_G T (hr.mono (by decide)) cdg _) TB rfl (List.mem_singleton.mpr rfl) (fun p hp _ => by rw [List.mem_singleton] at hp; subst hp; rfl) hr (LamX.lamS_by (sc := defScope s_l_right) (by decide +kernel)) rfl (fun _ _ _ _ _ => rfl)
          (fun A outer s H E f c' hr2 => pe_call (ok_read_county T) hr2 (by rfl) T.g_read_county (T.F_read_county).kp T.b_read_county .nil (passX (takes_of rfl rfl rfl rfl)) (pa_cons (pv 0) pa_nil))) pa_nil))
      (pe_callB (call_reprD hG hr.units) (by rfl) T.f_repr boot_repr' (pa_cons (pe_call (ok_l_due T) (hr.mono (by decide)) (by rfl) T.g__law_due (T.F_l_due).kp T.b_l_due .nil (E := E0) pass0 (pa_cons (pv 0) pa_nil)) pa_nil)) (nomark _))), ?_⟩
    refine ⟨hT, fun H1 e1 T1 q0 n0 => ?_⟩
    have s0 := Same.new (o := .lst []) n0
    have x1 : LamX.ExtN H (upd H1 q0 (.lst [])) := e1.trans (Same.extN s0)
    have t1 := T1.ext s0
    have deq : ∀ (d : PyData) (H4 : Hp), Same (upd H1 q0 (.lst [])) H4 → Q (.bl (decide (V.str d.shown = V.str d.shown))) H4 := fun d H4 s4 => by
      rw [decide_eq_true rfl]
      exact k H4 (x1.trans (Same.extN s4)) (t1.ext s4)
    have dE : ∀ {H3 : Hp} {p : Addr} {n k : Int}, H3 p = some (.tup [.str "text", .int n, .int k]) → Dp K H3 (.ref p) (dErr n k) := fun hp => .tup (SqT.of hp) (.cons (.str _) (.cons (.int _) (.cons (.int _) .nil)))
    rcases hv with hn | ⟨z, rfl, hz⟩
    · have g : Good (dErr ((0 : Nat) : Int) ((0 : Nat) : Int)) := err_good (by decide) (by decide)
      refine ⟨_, rfl, v, rfl, .inl ⟨hn.ext x1, fun H2 d s2 hd => ⟨rfl, d, 0, 0, rfl, hd, fun p H3 s3 hp => ?_⟩⟩⟩
      have s13 := s2.trans s3
      refine ⟨p, dErr 0 0, rfl, dE hp, g.s, g.n, g.z, g.l, ?_⟩
      refine ⟨_, rfl, v, rfl, .inl ⟨hn.ext (x1.trans (Same.extN s13)), fun p2 H4 s4 hp2 => ?_⟩⟩
      exact ⟨p2, dErr 0 0, rfl, dE hp2, g.s, g.n, g.z, g.l, rfl, deq _ _ (s13.trans s4)⟩
    · refine ⟨_, rfl, _, rfl, .inr ⟨z, rfl, hz, fun n kk hr => fun H2 d s2 hd => ⟨rfl, d, n, kk, rfl, hd, fun p H3 s3 hp => ?_⟩, fun ps hr p H2 s2 hp q nq => ?_⟩⟩
      · obtain ⟨b1, b2⟩ := readC_err hz hr
        have g := err_good b1 b2
        have s13 := s2.trans s3
        refine ⟨p, dErr n kk, rfl, dE hp, g.s, g.n, g.z, g.l, ?_⟩
        refine ⟨_, rfl, _, rfl, .inr ⟨z, rfl, hz, fun n' k' hr' p2 H4 s4 hp2 => ?_, fun ps hr' => ?_⟩⟩
        · rw [hr] at hr'
          cases hr'
          exact ⟨p2, dErr n kk, rfl, dE hp2, g.s, g.n, g.z, g.l, rfl, deq _ _ (s13.trans s4)⟩
        · rw [hr] at hr'
          cases hr'
      · obtain ⟨b1, b2⟩ := readC_ok hr
        have g := ok_good b1 b2
        have dO : ∀ {H3 : Hp} {p c : Addr}, H3 p = some (.lst [.ref c]) → OCo H3 c ps → Dp K H3 (.ref p) (dOk ps) := fun h1 h2 => .lst (SqL.of h1) (.cons (co_dp h2) .nil)
        have s3 := s2.trans (Same.new (o := .lst [.ref p]) nq)
        refine ⟨q, dOk ps, rfl, dO upd_same (ocoT (Same.tups (Same.new nq)) hp), g.s, g.n, g.z, g.l, ?_⟩
        refine ⟨_, rfl, _, rfl, .inr ⟨z, rfl, hz, fun n' k' hr' => ?_, fun ps' hr' p2 c2 H4 s4 hp2 ho2 => ?_⟩⟩
        · rw [hr] at hr'
          cases hr'
        · rw [hr] at hr'
          cases hr'
          exact ⟨p2, dOk ps, rfl, dO hp2 ho2, g.s, g.n, g.z, g.l, rfl, deq _ _ (s3.trans s4)⟩
end
end Pr
end

section
set_option Elab.async false
set_option linter.all false
set_option maxRecDepth 100000
set_option maxHeartbeats 4000000
/-! Drawing of the script: only that what is drawn lies within its bounds matters. -/
namespace Pr
open PySem L2
section
variable {P : Program} {w : World} {K : PySem.W.Frag} {mg : Str → Option Value} {base : Heap}
def spMixed : Sp := fun vs H Q _ => ∃ c k : Int, vs = [.int c, .int k] ∧ 0 ≤ k ∧ k < 2 ^ 50 ∧ ∀ r, 0 ≤ r → Q (.int r) H
theorem ok_l_mixed (T : Txt K mg) : FnOk P w K mg base L2.CX0 1 (a_l_mixed K) (fdOf K (a_l_mixed K)) P_l_mixed spMixed := by
  refine T.F_l_mixed.ok sc_l_mixed (fun vs H Q E h => ?_) (fun cdv A outer s H vs Q E hr h => ?_)
  · obtain ⟨c, k, rfl, _⟩ := h
    rfl
  · obtain ⟨c, k, rfl, h0, h1, q⟩ := h
    refine ⟨_, pss_cons (ps_set (i := 2) sc_l_mixed.nd rfl (Or.inl rfl) (pe_op op_add (pe_op op_add (pe_op op_mod (pe_op op_mul (pe_op op_mul (pv 0) (pe_op op_add pe_int (pe_op op_mul pe_int (pv 1)))) pe_int) pe_int) (pe_op op_mul (pe_op op_mul pe_int (pv 1)) (pv 1))) (pe_op op_mul pe_int (pv 1))))
      (pss_one (ps_ret (pe_op op_fdiv (pe_op op_mod (pe_op op_mul (pv 2) pe_int) pe_int) pe_int))), ?_⟩
    refine ⟨_, rfl, _, rfl, _, _, rfl, rfl, .inl (by decide), _, _, rfl, rfl, _, _, rfl, rfl, .inr (by omega), _, _, rfl, rfl, .inr (by decide), _, _, rfl, rfl, (by show (0 : Int) < 2147483647; decide), ?_⟩
    refine ⟨_, rfl, _, _, rfl, rfl, .inl (by decide), _, rfl, _, _, rfl, rfl, .inr (by omega), _, _, rfl, rfl, _, rfl, _, _, rfl, rfl, .inl (by decide), _, _, rfl, rfl, ?_⟩
    refine ⟨_, rfl, _, _, rfl, rfl, .inr (by decide), _, _, rfl, rfl, (by show (0 : Int) < 2147483629; decide), _, _, rfl, rfl, ⟨by decide, by decide⟩, ?_⟩
    exact q _ (Int.ediv_nonneg (Int.emod_nonneg _ (by decide)) (by decide))
/-- a list of ints -/
def IntL (H : Hp) (p : Addr) (n : Nat) : Prop := ∃ ns : List Int, H p = some (.lst (ns.map V.int)) ∧ ns.length = n
def spFolded (K : PySem.W.Frag) : Sp := fun vs H Q _ => ∃ (a : Addr) (ns : List Int), vs = [.ref a] ∧ SqL K H a (ns.map V.int) ∧ ∀ p H', H p = none → Same H H' → IntL H' p 64 → Q (.ref p) H'
theorem int_at {ns : List Int} {i : Nat} (h : i < ns.length) : ∃ z, atI (ns.map V.int) ((i : Nat) : Int) = some (V.int z) := ⟨ns[i], atI_nat (by rw [List.getElem?_map, List.getElem?_eq_getElem h]; rfl)⟩
theorem ixN_nat {n i : Nat} (h : i < n) : ixN n ((i : Nat) : Int) = some i := by
  unfold ixN
  rw [if_pos (by omega), if_pos (by omega)]
  simp
theorem IntL.set {H : Hp} {p : Addr} {ns : List Int} {i : Nat} (z : Int) : IntL (upd H p (.lst ((ns.map V.int).set i (V.int z)))) p ns.length := ⟨ns.set i z, by rw [upd_same, List.map_set], by rw [List.length_set]⟩
theorem ok_l_folded (T : Txt K mg) : FnOk P w K mg base L2.CX0 1 (a_l_folded K) (fdOf K (a_l_folded K)) P_l_folded (spFolded K) := by
  refine T.F_l_folded.ok sc_l_folded (fun vs H Q E h => ?_) (fun cdv A outer s H vs Q E hr h => ?_)
  · obtain ⟨a, ns, rfl, _⟩ := h
    rfl
  · obtain ⟨a, ns, rfl, hS, q⟩ := h
    refine ⟨_, PSs.nox (pss_cons (ps_setLc (i := 2) (own := [("_law_k", 1)]) (g := gName 1) (tt := tYes) rfl sc_l_folded.nd rfl rfl (sw_true rfl rfl rfl (by decide +kernel)) (pi_range1 (by rfl) T.f_range (pa_cons pe_int pa_nil)) (blkOk_by (N := N_l_folded) (sc := defScope s_l_folded) (by decide +kernel)) (fun _ _ _ _ _ => pg_name (i := 1) sc_l_folded.nd rfl (Or.inl rfl)) (fun _ _ _ _ _ => pts_nil) (fun _ _ _ _ _ => (pe_op op_add pe_int (pv 1))))
      (pss_cons (ps_for PassesOwn.never rfl (pi_enum (by rfl) T.f_enumerate (pa_cons (pv 0) pa_nil)) (pg_tup rfl (pgs_cons (pg_name (i := 1) sc_l_folded.nd rfl (Or.inl rfl)) (pgs_cons (pg_name (i := 3) sc_l_folded.nd rfl (Or.inl rfl)) pgs_nil)))
       (pss_one (ps_asg (pe_op op_mod (pe_op op_add (pe_op op_mul (pe_ix ix_list (pv 2) (pe_op op_mod (pv 1) pe_int) (fun _ _ => rfl)) pe_int) (pv 3)) pe_int) (pg_sub (pv 2) (pe_op op_mod (pv 1) pe_int) set_list))))
      (pss_cons (ps_for PassesOwn.never rfl (pi_range2 (by rfl) T.f_range (pa_cons pe_int (pa_cons pe_int pa_nil))) (pg_name (i := 1) sc_l_folded.nd rfl (Or.inl rfl))
       (pss_one (ps_asg (pe_op op_mod (pe_op op_add (pe_ix ix_list (pv 2) (pv 1) (fun _ _ => rfl)) (pe_op op_mul (pe_ix ix_list (pv 2) (pe_op op_sub (pv 1) pe_int) (fun _ _ => rfl)) pe_int)) pe_int) (pg_sub (pv 2) (pv 1) set_list))))
      (pss_one (ps_ret (pv 2)))))), ?_⟩
    refine ⟨64, rfl, by decide, by decide, fun D nD => ?_⟩
    have off : ∀ {H1 : Hp} {o : HO}, Same H H1 → Same H (upd H1 D o) := fun s b u e => by
      rw [upd_ne (ne_of_none e nD)]
      exact s b u e
    refine lc_range (lo := 0) (n := 64) (fun i H1 => Same H H1 ∧ IntL H1 D i) ⟨off (Same.refl H), [], upd_same, rfl⟩ (fun i H1 hi ⟨s1, ms, hm, hl⟩ => ?_) (fun H1 ⟨s1, I1⟩ => ?_)
    · refine ⟨rfl, ?_⟩
      refine ⟨_, rfl, _, _, rfl, rfl, _, hm, by rw [List.length_map, hl]; exact Nat.lt_of_lt_of_le hi (by decide), off s1, ms ++ [17 + (0 + (i : Int))], ?_, by rw [List.length_append, hl]; rfl⟩
      rw [upd_same, List.map_append]
      rfl
    · refine ⟨_, rfl, a, _, rfl, s1.seq hS, for_it walk_enum (fun i σ H2 => ∃ o1 o3, σ = [some (.ref a), o1, some (.ref D), o3] ∧ Same H H2 ∧ IntL H2 D 64) ⟨none, none, rfl, s1, I1⟩ (fun i σ H2 _ ⟨_, _, _, s, _⟩ => s.seq hS) ?_ ?_⟩
      · rintro i x σ H2 H3 hi ⟨o1, o3, rfl, s2, ms, hm, hl⟩ ⟨t, xi, xl, rfl, nt, rfl, exi, exl⟩
        cases exi
        obtain ⟨c, rfl⟩ : ∃ c, xl = V.int c := by
          have exl : (ns.map V.int)[i]? = some xl := exl
          rw [List.getElem?_map] at exl
          cases q : ns[i]? with
          | none => rw [q] at exl; cases exl
          | some u =>
            rw [q] at exl
            exact ⟨u, (Option.some.inj exl).symm⟩
        have s3 : Same H2 (upd H2 t (.tup [.int i, .int c])) := Same.new nt
        have hm3 := s3 _ _ hm
        have hi64 : ((i : Nat) : Int) % 64 = ((i % 64 : Nat) : Int) := by omega
        have lt64 : i % 64 < ms.length := by rw [hl]; exact Nat.mod_lt _ (by decide)
        obtain ⟨z, hz⟩ := int_at lt64
        refine ⟨t, _, rfl, SqT.of upd_same, rfl, _, _, rfl, _, _, rfl, rfl, ?_⟩
        refine ⟨_, rfl, _, rfl, _, _, rfl, rfl, (by show (0 : Int) < 64; decide), D, _, _, _, rfl, rfl, SqL.of hm3, by rw [hi64]; exact hz, _, _, rfl, rfl, .inr (by decide), _, rfl, _, _, rfl, rfl, _, _, rfl, rfl, (by show (0 : Int) < 2147483647; decide), ?_⟩
        refine ⟨_, rfl, _, rfl, _, _, rfl, rfl, (by show (0 : Int) < 64; decide), D, _, _, i % 64, rfl, rfl, hm3, by rw [hi64, List.length_map]; exact ixN_nat lt64, ?_⟩
        refine ⟨_, _, rfl, off (s2.trans s3), ?_⟩
        rw [← hl]
        exact IntL.set _
      · rintro σ H2 ⟨o1, o3, rfl, s2, I2⟩
        refine ⟨1, 64, rfl, by decide, for_range (lo := 1) (n := 63) (fun i σ H3 => ∃ o1 o3, σ = [some (.ref a), o1, some (.ref D), o3] ∧ Same H H3 ∧ IntL H3 D 64) ⟨_, _, rfl, s2, I2⟩ ?_ ?_⟩
        · rintro i σ H3 hi ⟨o1, o3, rfl, s3, ms, hm, hl⟩
          have e1 : (1 : Int) + (i : Int) = ((i + 1 : Nat) : Int) := by omega
          have e2 : (1 : Int) + (i : Int) - 1 = ((i : Nat) : Int) := by omega
          obtain ⟨z1, hz1⟩ := int_at (ns := ms) (i := i + 1) (by omega)
          obtain ⟨z2, hz2⟩ := int_at (ns := ms) (i := i) (by omega)
          refine ⟨_, rfl, _, rfl, D, _, _, _, rfl, rfl, SqL.of hm, by rw [e1]; exact hz1, _, rfl, _, rfl, _, _, rfl, rfl, D, _, _, _, rfl, rfl, SqL.of hm, by rw [e2]; exact hz2, _, _, rfl, rfl, .inr (by decide), _, _, rfl, rfl, _, _, rfl, rfl, (by show (0 : Int) < 2147483647; decide), ?_⟩
          refine ⟨_, rfl, _, rfl, D, _, _, i + 1, rfl, rfl, hm, by rw [e1, List.length_map]; exact ixN_nat (by omega), ?_⟩
          refine ⟨_, _, rfl, off s3, ?_⟩
          rw [← hl]
          exact IntL.set _
        · rintro σ H3 ⟨o1, o3, rfl, s3, I3⟩
          exact ⟨_, rfl, q D H3 nD s3 I3⟩
end
end Pr
end

section
set_option Elab.async false
set_option linter.all false
set_option maxRecDepth 100000
set_option maxHeartbeats 4000000
/-! Drawing, begun. -/
namespace Pr
open PySem L2
section
variable {P : Program} {w : World} {K : PySem.W.Frag} {mg : Str → Option Value} {base : Heap}
def mkv (C Lf : Addr) (k : Int) : List (Key × V) := [(.inr "cells", .ref C), (.inr "left", .ref Lf), (.inr "at", .int k)]
theorem mkv_c (C Lf : Addr) (k : Int) : valV (mkv C Lf k) (.inr "cells") = some (.ref C) := rfl
theorem mkv_l (C Lf : Addr) (k : Int) : valV (mkv C Lf k) (.inr "left") = some (.ref Lf) := rfl
theorem mkv_a (C Lf : Addr) (k : Int) : valV (mkv C Lf k) (.inr "at") = some (.int k) := rfl
theorem mkv_put (C Lf : Addr) (k j : Int) : putK (mkv C Lf k) (.inr "at") (.int j) = mkv C Lf j := rfl
structure MAt (H : Hp) (m Lf C : Addr) (k : Nat) : Prop where
  d : H m = some (.dK (mkv C Lf k))
  c : IntL H C 64
  l : ∃ ls : List Int, H Lf = some (.lst (ls.map V.int))
  ne : C ≠ Lf
theorem MAt.same {H H' : Hp} {m Lf C : Addr} {k : Nat} (a : MAt H m Lf C k) (s : Same H H') : MAt H' m Lf C k := by
  obtain ⟨d, ⟨cs, c1, c2⟩, ⟨ls, l⟩, ne⟩ := a
  exact ⟨s _ _ d, ⟨cs, s _ _ c1, c2⟩, ⟨ls, s _ _ l⟩, ne⟩
def spDraw : Sp := fun vs H Q _ => ∃ (m Lf C : Addr) (k : Nat) (many : Int), vs = [.ref m, .int many] ∧ MAt H m Lf C k ∧ 0 < many ∧ many < 1000000 ∧ k < 2 ^ 40 ∧ ∀ r H', 0 ≤ r → r < many → SameXs [m, Lf] H H' → MAt H' m Lf C (k + 1) → Q (.int r) H'
theorem fmod_in {a b : Int} (h : 0 < b) : 0 ≤ a.fmod b ∧ a.fmod b < b := by
  rw [Int.fmod_eq_emod_of_nonneg a (by omega)]
  exact ⟨Int.emod_nonneg _ (by omega), Int.emod_lt_of_pos _ h⟩
theorem ok_l_draw (T : Txt K mg) : FnOk P w K mg base L2.CX0 2 (a_l_draw K) (fdOf K (a_l_draw K)) P_l_draw spDraw := by
  refine T.F_l_draw.ok sc_l_draw (fun vs H Q E h => ?_) (fun cdv A outer s H vs Q E hr h => ?_)
  · obtain ⟨m, Lf, C, k, many, rfl, _⟩ := h
    rfl
  · obtain ⟨m, Lf, C, k, many, rfl, M, h0, h1, hk, q⟩ := h
    have hu := hu_of hr
    refine ⟨_, pss_cons (ps_set (i := 2) sc_l_draw.nd rfl (Or.inl rfl) (pe_dget hu (pv 0) pe_str (fun _ _ => rfl)))
      (pss_cons (ps_dput hu (pv 0) pe_str (pe_op op_add (pv 2) pe_int) rfl)
      (pss_cons (ps_cut (ps_if (pt_cmpR (op_neN (Nat.lt_of_succ_lt hu)) (pe_dget hu (pv 0) pe_str (fun _ _ => rfl)) (pe_lst pa_nil) (nomark _)) (pss_cons (ps_set (i := 3) sc_l_draw.nd rfl (Or.inl rfl) (pe_op op_modN (pv 2) (pe_callB call_len_seq (by rfl) T.f_len PySem.boot_len (pa_cons (pe_dget hu (pv 0) pe_str (fun _ _ => rfl)) pa_nil))))
       (pss_cons (ps_set (i := 4) sc_l_draw.nd rfl (Or.inl rfl) (pe_ix ix_list (pe_dget hu (pv 0) pe_str (fun _ _ => rfl)) (pv 3) (fun _ _ => rfl)))
       (pss_one (ps_if (pt_cmpR op_gt (pv 4) pe_int (nomark _)) (pss_cons (ps_asg (pe_op op_fdivN (pv 4) (pv 1)) (pg_sub (pe_dget hu (pv 0) pe_str (fun _ _ => rfl)) (pv 3) set_list))
        (pss_one (ps_ret (pe_op op_modN (pv 4) (pv 1))))) pss_nil)))) pss_nil))
      (pss_one (ps_ret (pe_op op_modN (pe_call (ok_l_mixed T) hr (by rfl) T.g__law_mixed (T.F_l_mixed).kp T.b_l_mixed .nil (E := E0) pass0 (pa_cons (pe_call (ok_l_mixed T) hr (by rfl) T.g__law_mixed (T.F_l_mixed).kp T.b_l_mixed .nil (E := E0) pass0 (pa_cons (pe_op op_add (pe_ix ix_list (pe_dget hu (pv 0) pe_str (fun _ _ => rfl)) (pe_op op_mod (pv 2) pe_int) (fun _ _ => rfl)) (pe_op op_mul pe_int (pe_op op_fdiv (pv 2) pe_int))) (pa_cons (pv 2) pa_nil))) (pa_cons (pe_op op_add (pv 2) pe_int) pa_nil))) (pv 1)))))), ?_⟩
    obtain ⟨hd, ⟨cs, hC, lC⟩, ⟨ls, hL⟩, nCL⟩ := M
    have nmC : m ≠ C := ne_of hd hC (by intro z; cases z)
    have nmL : m ≠ Lf := ne_of hd hL (by intro z; cases z)
    refine ⟨_, rfl, m, _, rfl, DGet.k (k := Sum.inr "at") hd, ?_⟩
    refine ⟨_, rfl, _, _, rfl, rfl, _, rfl, m, _, rfl, DPut.k (k := Sum.inr "at") hd (by show 3 < sizeLine; decide), ?_⟩
    rw [mkv_put]
    have eK : ((k : Nat) : Int) + 1 = ((k + 1 : Nat) : Int) := by omega
    rw [eK]
    obtain ⟨H1, e1⟩ : ∃ H1, H1 = upd H m (.dK (mkv C Lf ((k + 1 : Nat) : Int))) := ⟨_, rfl⟩
    rw [← e1]
    have hd1 : H1 m = some (.dK (mkv C Lf ((k + 1 : Nat) : Int))) := by rw [e1]; exact upd_same
    have hC1 : H1 C = some (.lst (cs.map V.int)) := by rw [e1, upd_ne (Ne.symm nmC)]; exact hC
    have hL1 : H1 Lf = some (.lst (ls.map V.int)) := by rw [e1, upd_ne (Ne.symm nmL)]; exact hL
    have x1 : SameXs [m, Lf] H H1 := fun b u n e => by
      rw [e1, upd_ne (fun z => n (by simp [z]))]
      exact e
    have M1 : MAt H1 m Lf C (k + 1) := ⟨hd1, ⟨cs, hC1, lC⟩, ⟨ls, hL1⟩, nCL⟩
    refine ⟨fun σ H3 => ∃ o3 o4, σ = [some (.ref m), some (.int many), some (.int k), o3, o4] ∧ Same H1 H3, ?_, ?_⟩
    · refine ⟨_, rfl, m, _, rfl, DGet.k (k := Sum.inr "left") hd1, Nat.zero_le _, fun e ne => ?_⟩
      have s2 : Same H1 (upd H1 e (.lst [])) := Same.new ne
      refine ⟨Lf, e, _, rfl, rfl, SqL.of (s2 _ _ hL1), SqL.of upd_same, _, rfl, ?_⟩
      rw [if_pos rfl]
      cases ls with
      | nil => exact iteF ⟨_, _, rfl, s2⟩
      | cons z0 ls =>
        refine iteT ?_
        have hL2 := s2 _ _ hL1
        have hd2 := s2 _ _ hd1
        refine ⟨_, rfl, _, rfl, m, _, rfl, DGet.k (k := Sum.inr "left") hd2, Lf, _, rfl, .inl (SqL.of hL2), _, _, rfl, rfl, (by show ((((z0 :: ls).map V.int).length : Nat) : Int) ≠ 0; rw [List.length_map, List.length_cons]; omega), ?_⟩
        obtain ⟨j, hj, lj⟩ : ∃ j : Nat, (k : Int).fmod ((((z0 :: ls).map V.int).length : Nat) : Int) = (j : Int) ∧ j < (z0 :: ls).length := by
          have p : (0 : Int) < ((((z0 :: ls).map V.int).length : Nat) : Int) := by rw [List.length_map, List.length_cons]; omega
          obtain ⟨a, b⟩ := fmod_in (a := (k : Int)) p
          refine ⟨((k : Int).fmod ((((z0 :: ls).map V.int).length : Nat) : Int)).toNat, by omega, ?_⟩
          rw [List.length_map] at *
          omega
        obtain ⟨z, hz⟩ := int_at lj
        have hz' : atI ((z0 :: ls).map V.int) ((k : Int).fmod ((((z0 :: ls).map V.int).length : Nat) : Int)) = some (V.int z) := by rw [hj]; exact hz
        have hi' : ixN ((z0 :: ls).map V.int).length ((k : Int).fmod ((((z0 :: ls).map V.int).length : Nat) : Int)) = some j := by rw [hj, List.length_map]; exact ixN_nat lj
        refine ⟨_, rfl, m, _, rfl, DGet.k (k := Sum.inr "left") hd2, _, rfl, Lf, _, _, _, rfl, rfl, SqL.of hL2, hz', ?_⟩
        refine ⟨_, rfl, _, _, rfl, rfl, _, rfl, iteD (fun c => ?_) (fun c => ⟨_, _, rfl, s2⟩)⟩
        have nm : many ≠ 0 := by omega
        refine ⟨_, rfl, _, rfl, _, _, rfl, rfl, ⟨nm, by omega⟩, ?_⟩
        refine ⟨_, rfl, m, _, rfl, DGet.k (k := Sum.inr "left") hd2, _, rfl, Lf, _, _, j, rfl, rfl, hL2, hi', ?_⟩
        refine ⟨_, rfl, _, rfl, _, _, rfl, rfl, nm, ?_⟩
        obtain ⟨b1, b2⟩ := fmod_in (a := z) h0
        refine q _ _ b1 b2 (fun b u n e => ?_) ⟨?_, ⟨cs, ?_, lC⟩, ⟨(z0 :: ls).set j (z.fdiv many), ?_⟩, nCL⟩
        · rw [upd_ne (fun z => n (by simp [z]))]
          exact s2 _ _ (x1 b u n e)
        · rw [upd_ne nmL]
          exact hd2
        · rw [upd_ne nCL]
          exact s2 _ _ hC1
        · rw [upd_same, List.map_set]
    · rintro σ H3 ⟨o3, o4, rfl, s3⟩
      have M3 := M1.same s3
      obtain ⟨hd3, ⟨cs3, hC3, lC3⟩, _, _⟩ := id M3
      have e64 : ((k : Nat) : Int) % 64 = ((k % 64 : Nat) : Int) := by omega
      obtain ⟨z, hz⟩ := int_at (ns := cs3) (i := k % 64) (by rw [lC3]; exact Nat.mod_lt _ (by decide))
      refine ⟨_, rfl, m, _, rfl, DGet.k (k := Sum.inr "cells") hd3, _, rfl, _, _, rfl, rfl, (by show (0 : Int) < 64; decide), C, _, _, _, rfl, rfl, SqL.of hC3, by rw [e64]; exact hz, ?_⟩
      refine ⟨_, rfl, _, _, rfl, rfl, ⟨by decide, by decide⟩, _, _, rfl, rfl, .inl (by decide), _, _, rfl, rfl, _, rfl, ?_⟩
      refine ⟨_, _, rfl, by omega, by omega, fun r1 hr1 => ⟨_, rfl, _, _, rfl, rfl, ?_⟩⟩
      refine ⟨_, _, rfl, by omega, by omega, fun r2 hr2 => ⟨_, rfl, _, _, rfl, rfl, (show many ≠ 0 by omega), ?_⟩⟩
      obtain ⟨b1, b2⟩ := fmod_in (a := r2) h0
      exact q _ _ b1 b2 (x1.trans (Same.toXs s3)) M3
theorem ints_of {α : Type} : ∀ {acc : List V} {as : List α}, All2 (fun v _ => ∃ z, v = V.int z) acc as → ∃ ls : List Int, acc = ls.map V.int
  | [], [], _ => ⟨[], rfl⟩
  | v :: acc, b :: bs, h => by
    obtain ⟨z, e⟩ := h.1
    obtain ⟨ls, e2⟩ := ints_of h.2
    exact ⟨z :: ls, by rw [e, e2]; rfl⟩
  | [], _ :: _, x => x.elim
  | _ :: _, [], x => x.elim
def spBegun (K : PySem.W.Frag) : Sp := fun vs H Q _ => ∃ (a : Addr) (ns : List Int), vs = [.ref a] ∧ SqL K H a (ns.map V.int) ∧ ns.length ≤ sizeLine ∧ ∀ m Lf C H', Same H H' → H m = none → H Lf = none → H C = none → MAt H' m Lf C 0 → Q (.ref m) H'
theorem ok_l_begun (T : Txt K mg) : FnOk P w K mg base L2.CX0 2 (a_l_begun K) (fdOf K (a_l_begun K)) P_l_begun (spBegun K) := by
  refine T.F_l_begun.ok sc_l_begun (fun vs H Q E h => ?_) (fun cdv A outer s H vs Q E hr h => ?_)
  · obtain ⟨a, ns, rfl, _⟩ := h
    rfl
  · obtain ⟨a, ns, rfl, hS, hn, q⟩ := h
    have hu := hu_of hr
    refine ⟨_, PSs.nox (pss_cons (ps_set (i := 1) sc_l_begun.nd rfl (Or.inl rfl) (pe_disp (pps_cons pe_str (pe_call (ok_l_folded T) hr (by rfl) T.g__law_folded (T.F_l_folded).kp T.b_l_folded .nil (E := E0) pass0 (pa_cons (pv 0) pa_nil)) (pps_cons pe_str (pe_lst pa_nil) (pps_cons pe_str pe_int pps_nil))) (by rfl) (by rfl) (fun z => by cases z) (by decide)))
      (pss_cons (ps_dput hu (pv 1) pe_str (pe_lc (own := [("_law_cell", 2)]) (g := gName 2) (tt := tYes) rfl sc_l_begun.nd (pi_list (pv 0)) (blkOk_by (N := N_l_begun) (sc := defScope s_l_begun) (by decide +kernel)) (fun _ _ _ _ _ => pg_name (i := 2) sc_l_begun.nd rfl (Or.inl rfl)) (fun _ _ _ _ _ => pts_nil) (fun _ _ _ _ _ => (pe_ifExp (pt_cmpR op_ge (pv 2) (pe_op op_pow pe_int pe_int) (nomark _)) (pv 2) pe_int))) rfl)
      (pss_one (ps_ret (pv 1))))), ?_⟩
    intro p np
    refine ⟨_, rfl, a, ns, rfl, (Same.new np).seq hS, fun C H1 nC s1 IC => ⟨Nat.zero_le _, fun L0 nL0 => ?_⟩⟩
    have hp1 : H1 p = some (.dK []) := s1 _ _ upd_same
    have s2 : Same H1 (upd H1 L0 (.lst [])) := Same.new nL0
    refine ⟨s2 _ _ hp1, mkv C L0 0, rfl, (by show 3 ≤ 15; decide), ?_⟩
    have em : mergeK [] (mkv C L0 0) = mkv C L0 0 := rfl
    rw [em]
    have off : ∀ {H2 : Hp} {o : HO}, Same H H2 → Same H (upd H2 p o) := fun s b u e => by
      rw [upd_ne (ne_of_none e np)]
      exact s b u e
    have k1 : Same H H1 := (Same.new np).trans s1
    have k2 : Same H (upd (upd H1 L0 (.lst [])) p (.dK (mkv C L0 0))) := off (k1.trans s2)
    refine ⟨_, rfl, a, rfl, ⟨_, k2.seq hS⟩, fun D nD => lc_T (as := ns) (fun v b => v = .int b) (fun _ v _ => ∃ z, v = .int z) (fun _ _ _ _ _ h => h) nD (k2.seq hS) ?_ hn ?_ ?_⟩
    · clear hS hn q
      induction ns with
      | nil => exact True.intro
      | cons n ns ih => exact ⟨rfl, ih⟩
    · rintro x b Hc N rfl _ kc hN
      refine ⟨rfl, _, rfl, _, _, rfl, rfl, ⟨by decide, by decide, by decide⟩, _, _, rfl, rfl, _, rfl, iteD (fun _ => ⟨_, rfl, hN _ _ (Same.refl _) ⟨_, rfl⟩⟩) (fun _ => hN _ _ (Same.refl _) ⟨_, rfl⟩)⟩
    · intro H3 acc s3 hD hacc
      obtain ⟨ls, rfl⟩ := ints_of hacc
      have hp3 := s3 _ _ upd_same
      refine ⟨_, rfl, p, _, rfl, DPut.k (k := Sum.inr "left") hp3 (by show 3 < sizeLine; decide), ?_⟩
      have ep : putK (mkv C L0 0) (.inr "left") (.ref D) = mkv C D 0 := rfl
      rw [ep]
      obtain ⟨cs, hC, lC⟩ := IC
      have pC : C ≠ p := ne_of hC hp1 (by intro z; cases z)
      have pD : D ≠ p := (ne_of_none upd_same nD).symm
      have hC2 : upd (upd H1 L0 (.lst [])) p (.dK (mkv C L0 0)) C = some (.lst (cs.map V.int)) := by
        rw [upd_ne pC]
        exact s2 _ _ hC
      refine ⟨_, rfl, q p D C _ (off (k2.trans s3)) np (k2.free nD) ((Same.new np).free nC) ⟨upd_same, ⟨cs, ?_, lC⟩, ⟨ls, ?_⟩, ne_of_none hC2 nD⟩⟩
      · rw [upd_ne pC]
        exact s3 _ _ hC2
      · rw [upd_ne pD]
        exact hD
end
end Pr
end

section
set_option Elab.async false
set_option linter.all false
set_option maxRecDepth 100000
set_option maxHeartbeats 4000000
/-! Names, people, worths. -/
namespace Pr
open PySem L2
section
variable {P : Program} {w : World} {K : PySem.W.Frag} {mg : Str → Option Value} {base : Heap}
/-- an item of a written list of ints -/
theorem pick {xs : List Int} {r : Int} {n : Nat} (hn : xs.length = n) (h0 : 0 ≤ r) (h1 : r < n) : ∃ z, z ∈ xs ∧ atI (xs.map V.int) r = some (V.int z) := by
  obtain ⟨i, rfl⟩ := Int.eq_ofNat_of_zero_le h0
  have hi : i < xs.length := by omega
  exact ⟨xs[i], List.getElem_mem hi, atI_nat (by rw [List.getElem?_map, List.getElem?_eq_getElem hi]; rfl)⟩
theorem str_pick {z : Str} {r : Int} (h0 : 0 ≤ r) (h1 : r < (z.length : Int)) : ∃ c, atI z.cps.toList r = some c := by
  obtain ⟨i, rfl⟩ := Int.eq_ofNat_of_zero_le h0
  have hi : i < z.cps.toList.length := by
    rw [Array.length_toList]
    exact Int.ofNat_lt.mp h1
  exact ⟨z.cps.toList[i], atI_nat (List.getElem?_eq_getElem hi)⟩
theorem len1 (c : Nat) : (⟨#[c]⟩ : Str).length = 1 := rfl
def Few (n : Nat) (ns : List Str) : Prop := ∀ z ∈ ns, z.length ≤ n
theorem Few.snoc {n : Nat} {ns : List Str} {z : Str} (h : Few n ns) (hz : z.length ≤ n) : Few n (ns ++ [z]) := fun y hy => by
  rcases List.mem_append.mp hy with hy | hy
  · exact h y hy
  · rw [List.mem_singleton] at hy
    rw [hy]
    exact hz
def spCalled : Sp := fun vs H Q _ => ∃ (m Lf C : Addr) (k many : Nat), vs = [.ref m, .int many] ∧ MAt H m Lf C k ∧ many ≤ 20 ∧ k + 1000 < 2 ^ 40 ∧ ∀ p H' ns k', SameXs [m, Lf] H H' → H p = none → H' p = some (.lst (ns.map V.str)) → ns.length = many → Few 30 ns →
  MAt H' m Lf C k' → k' ≤ k + 1000 → Q (.ref p) H'
theorem ok_l_called (T : Txt K mg) : FnOk P w K mg base L2.CX0 3 (a_l_called K) (fdOf K (a_l_called K)) P_l_called spCalled := by
  refine T.F_l_called.ok sc_l_called (fun vs H Q E h => ?_) (fun cdv A outer s H vs Q E hr h => ?_)
  · obtain ⟨m, Lf, C, k, many, rfl, _⟩ := h
    rfl
  · obtain ⟨m, Lf, C, k, many, rfl, M, hm, hk, q⟩ := h
    refine ⟨_, PSs.nox (pss_cons (ps_par (i := 2) (j := 3) (by rfl) sc_l_called.nd rfl rfl (by decide) rfl rfl (pa_cons pe_str (pa_cons (pe_lst pa_nil) pa_nil)) (by rfl))
      (pss_cons (ps_par (i := 4) (j := 5) (by rfl) sc_l_called.nd rfl rfl (by decide) rfl rfl (pa_cons (pe_call (ok_l_draw T) hr (by rfl) T.g__law_draw (T.F_l_draw).kp T.b_l_draw .nil (E := E0) pass0 (pa_cons (pv 0) (pa_cons pe_int pa_nil))) (pa_cons (pe_ix ix_list (pe_lst (pa_cons pe_int (pa_cons pe_int (pa_cons pe_int (pa_cons pe_int (pa_cons pe_int (pa_cons pe_int (pa_cons pe_int (pa_cons pe_int (pa_cons pe_int (pa_cons pe_int (pa_cons pe_int (pa_cons pe_int pa_nil))))))))))))) (pe_call (ok_l_draw T) hr (by rfl) T.g__law_draw (T.F_l_draw).kp T.b_l_draw .nil (E := E0) pass0 (pa_cons (pv 0) (pa_cons pe_int pa_nil))) (fun _ _ => rfl)) pa_nil)) (by rfl))
      (pss_cons (ps_for PassesOwn.never rfl (pi_range1 (by rfl) T.f_range (pa_cons (pv 1) pa_nil)) (pg_name (i := 6) sc_l_called.nd rfl (Or.inl rfl))
       (pss_cons (ps_set (i := 7) sc_l_called.nd rfl (Or.inl rfl) (pe_ix ix_str (pv 2) (pe_op op_mod (pe_op op_add (pv 4) (pe_op op_mul (pv 5) (pv 6))) pe_int) (fun _ _ => rfl)))
       (pss_cons (ps_set (i := 7) sc_l_called.nd rfl (Or.inl rfl) (pe_op op_add_str (pv 7) (pe_ix ix_str (pv 2) (pe_op op_mod (pe_op op_add (pv 4) (pe_op op_fdiv (pv 6) pe_int)) pe_int) (fun _ _ => rfl))))
       (pss_cons (ps_cut (ps_for PassesOwn.never rfl (pi_range1 (by rfl) T.f_range (pa_cons (pe_ix ix_list (pe_lst (pa_cons pe_int (pa_cons pe_int (pa_cons pe_int (pa_cons (pe_call (ok_l_draw T) hr (by rfl) T.g__law_draw (T.F_l_draw).kp T.b_l_draw .nil (E := E0) pass0 (pa_cons (pv 0) (pa_cons pe_int pa_nil))) pa_nil))))) (pe_call (ok_l_draw T) hr (by rfl) T.g__law_draw (T.F_l_draw).kp T.b_l_draw .nil (E := E0) pass0 (pa_cons (pv 0) (pa_cons pe_int pa_nil))) (fun _ _ => rfl)) pa_nil)) (pg_name (i := 8) sc_l_called.nd rfl (Or.inl rfl))
        (pss_one (ps_set (i := 7) sc_l_called.nd rfl (Or.inl rfl) (pe_op op_add_str (pv 7) (pe_ix ix_str pe_str (pe_call (ok_l_draw T) hr (by rfl) T.g__law_draw (T.F_l_draw).kp T.b_l_draw .nil (E := E0) pass0 (pa_cons (pv 0) (pa_cons pe_int pa_nil))) (fun _ _ => rfl)))))))
       (pss_cons (ps_cut (ps_if (PW.pt (pw_and (pt_cmpR op_eq (pe_op op_mod (pv 6) pe_int) pe_int (nomark _)) (pw_and1 (pt_cmpR op_eq (pe_call (ok_l_draw T) hr (by rfl) T.g__law_draw (T.F_l_draw).kp T.b_l_draw .nil (E := E0) pass0 (pa_cons (pv 0) (pa_cons pe_int pa_nil))) pe_int (nomark _))))) (pss_one (ps_set (i := 7) sc_l_called.nd rfl (Or.inl rfl) (pe_op op_add_str (pe_slice sl_str (pe_ix ix_list (pv 3) (pe_un un_neg pe_int) (fun _ _ => rfl)) po_none (po_some pe_int)) pe_str))) pss_nil))
       (pss_one (ps_expr (pe_bm PySem.F.plainAttrs_list PySem.F.slot_list_append PySem.F.type_list_append mt_append (pv 3) (pa_cons (pv 7) pa_nil)))))))))
      (pss_one (ps_ret (pv 3)))))), ?_⟩
    have l26 : (("abcdefghijklmnopqrstuvwxyz" : Str).length : Int) = 26 := by decide +kernel
    have l5 : (("aeiou" : Str).length : Int) = 5 := by decide +kernel
    have zs : ("abcdefghijklmnopqrstuvwxyz" : Str).length ≤ sizeLine := by rw [sizeLine_eq]; decide +kernel
    have zv : ("aeiou" : Str).length ≤ sizeLine := by rw [sizeLine_eq]; decide +kernel
    refine ⟨Nat.zero_le _, fun D nD => ⟨_, _, rfl, ?_⟩⟩
    have sD : Same H (upd H D (.lst [])) := Same.new nD
    have MD := M.same sD
    obtain ⟨Mh, _, ⟨Ml, Mhl⟩, _⟩ := id M
    have nDm : D ≠ m := (ne_of_none Mh nD).symm
    have nDL : D ≠ Lf := (ne_of_none Mhl nD).symm
    have nDx : D ∉ [m, Lf] := by simp [nDm, nDL]
    refine ⟨_, rfl, m, Lf, C, k, 26, rfl, MD, by decide, by decide, by omega, fun shift H1 a0 a1 x1 M1 => ?_⟩
    refine ⟨(by show 12 ≤ sizeLine; decide), fun e ne => ?_⟩
    have s2 : Same H1 (upd H1 e (.lst [.int 1, .int 3, .int 5, .int 7, .int 9, .int 11, .int 15, .int 17, .int 19, .int 21, .int 23, .int 25])) := Same.new ne
    have nem : e ∉ [m, Lf] := by
      obtain ⟨h1, _, ⟨l1, h2⟩, _⟩ := id M1
      simp [(ne_of_none h1 ne).symm, (ne_of_none h2 ne).symm]
    refine ⟨_, rfl, m, Lf, C, k + 1, 12, rfl, M1.same s2, by decide, by decide, by omega, fun r2 H2 b0 b1 x2 M2 => ?_⟩
    obtain ⟨stride, _, hst⟩ := pick (xs := [1, 3, 5, 7, 9, 11, 15, 17, 19, 21, 23, 25]) (n := 12) rfl b0 b1
    refine ⟨e, _, _, _, rfl, rfl, SqL.of (x2 _ _ nem upd_same), hst, _, _, rfl, ?_⟩
    have x02 : SameXs [m, Lf] H H2 := ((Same.toXs sD).trans x1).trans ((Same.toXs s2).trans x2)
    have hD2 : H2 D = some (.lst []) := x2 _ _ nDx (s2 _ _ (x1 _ _ nDx upd_same))
    refine ⟨_, rfl, many, rfl, by omega, by omega, for_range (lo := 0) (n := many) (fun i σ H' => ∃ (ns : List Str) (k' : Nat) (o6 o7 o8 : Option V), σ = [some (.ref m), some (.int many), some (.str "abcdefghijklmnopqrstuvwxyz"), some (.ref D), some (.int shift), some (.int stride), o6, o7, o8] ∧ SameXs [m, Lf] H H' ∧
        H' D = some (.lst (ns.map V.str)) ∧ ns.length = i ∧ Few (8 + i) ns ∧ MAt H' m Lf C k' ∧ k' ≤ k + 2 + 9 * i) ⟨[], k + 1 + 1, none, none, none, rfl, x02, hD2, rfl, fun z hz => by simp at hz, M2, by omega⟩ ?_ ?_⟩
    · rintro i σ H3 hi ⟨ns, k3, o6, o7, o8, rfl, x3, hD3, lns, fw3, M3, le3⟩
      have e0 : (0 : Int) + (i : Int) = ((i : Nat) : Int) := by omega
      rw [e0]
      have m26 : ∀ z : Int, 0 ≤ z % 26 ∧ z % 26 < (("abcdefghijklmnopqrstuvwxyz" : Str).length : Int) := fun z => by
        rw [l26]
        exact ⟨Int.emod_nonneg _ (by decide), Int.emod_lt_of_pos _ (by decide)⟩
      obtain ⟨c1, hc1⟩ := str_pick (m26 (shift + stride * (i : Int))).1 (m26 (shift + stride * (i : Int))).2
      obtain ⟨c2, hc2⟩ := str_pick (m26 (shift + (i : Int) / 26)).1 (m26 (shift + (i : Int) / 26)).2
      refine ⟨_, rfl, _, rfl, _, rfl, _, rfl, _, _, rfl, rfl, .inr (by omega), _, _, rfl, rfl, _, _, rfl, rfl, (by show (0 : Int) < 26; decide), _, _, c1, rfl, rfl, zs, hc1, ?_⟩
      refine ⟨_, rfl, _, rfl, _, rfl, _, rfl, _, _, rfl, rfl, ⟨by decide, by decide⟩, _, _, rfl, rfl, _, _, rfl, rfl, (by show (0 : Int) < 26; decide), _, _, c2, rfl, rfl, zs, hc2, _, _, rfl, rfl, (by rw [len1, len1, sizeLine_eq]; decide), ?_⟩
      -- the vowels
      refine ⟨fun σ H4 => ∃ (nm : Str) (k4 : Nat) (o8 : Option V), σ = [some (.ref m), some (.int many), some (.str "abcdefghijklmnopqrstuvwxyz"), some (.ref D), some (.int shift), some (.int stride), some (.int i), some (.str nm), o8] ∧ SameXs [m, Lf] H3 H4 ∧ nm.length ≤ 7 ∧ MAt H4 m Lf C k4 ∧ k4 ≤ k3 + 7, ?_, ?_⟩
      · refine ⟨_, rfl, m, Lf, C, k3, 6, rfl, M3, by decide, by decide, by omega, fun r6 H4 d0 d1 x4 M4 => ?_⟩
        refine ⟨(by show 4 ≤ sizeLine; decide), fun f nf => ?_⟩
        have s5 : Same H4 (upd H4 f (.lst [.int 0, .int 0, .int 1, .int r6])) := Same.new nf
        have nfm : f ∉ [m, Lf] := by
          obtain ⟨h1, _, ⟨l1, h2⟩, _⟩ := id M4
          simp [(ne_of_none h1 nf).symm, (ne_of_none h2 nf).symm]
        refine ⟨_, rfl, m, Lf, C, k3 + 1, 4, rfl, M4.same s5, by decide, by decide, by omega, fun r4 H5 f0 f1 x5 M5 => ?_⟩
        obtain ⟨t, ht, hat⟩ := pick (xs := [0, 0, 1, r6]) (n := 4) rfl f0 f1
        have t05 : 0 ≤ t ∧ t ≤ 5 := by
          simp at ht
          omega
        refine ⟨f, _, _, _, rfl, rfl, SqL.of (x5 _ _ nfm upd_same), hat, t, rfl, by omega, by omega, for_range (lo := 0) (n := t.toNat) (fun j σ H' => ∃ (nm : Str) (k' : Nat) (o8 : Option V), σ = [some (.ref m), some (.int many), some (.str "abcdefghijklmnopqrstuvwxyz"), some (.ref D), some (.int shift), some (.int stride), some (.int i), some (.str nm), o8] ∧ SameXs [m, Lf] H3 H' ∧
          nm.length ≤ 2 + j ∧ MAt H' m Lf C k' ∧ k' ≤ k3 + 2 + j) ⟨_, k3 + 1 + 1, _, rfl, x4.trans ((Same.toXs s5).trans x5), (by rw [strLen_append, len1, len1]; omega), M5, by omega⟩ ?_ ?_⟩
        · rintro j σ H6 hj ⟨nm, k6, o8, rfl, x6, l6, M6, le6⟩
          refine ⟨_, rfl, _, rfl, m, Lf, C, k6, 5, rfl, M6, by decide, by decide, by omega, fun r5 H7 g0 g1 x7 M7 => ?_⟩
          obtain ⟨c, hc⟩ := str_pick (z := "aeiou") g0 (by rw [l5]; exact g1)
          refine ⟨_, _, c, rfl, rfl, zv, hc, _, _, rfl, rfl, (by rw [len1, sizeLine_eq]; omega), ?_⟩
          exact ⟨_, k6 + 1, _, rfl, x6.trans x7, (by rw [strLen_append, len1]; omega), M7, by omega⟩
        · rintro σ H6 ⟨nm, k6, o8, rfl, x6, l6, M6, le6⟩
          exact ⟨nm, k6, o8, rfl, x6, by omega, M6, by omega⟩
      · rintro σ H4 ⟨nm, k4, o8, rfl, x4, l4, M4, le4⟩
        have hD4 : H4 D = some (.lst (ns.map V.str)) := x4 _ _ nDx hD3
        refine ⟨fun σ H5 => ∃ (nm : Str) (k5 : Nat), σ = [some (.ref m), some (.int many), some (.str "abcdefghijklmnopqrstuvwxyz"), some (.ref D), some (.int shift), some (.int stride), some (.int i), some (.str nm), o8] ∧ SameXs [m, Lf] H4 H5 ∧ nm.length ≤ 8 + (i + 1) ∧ MAt H5 m Lf C k5 ∧ k5 ≤ k4 + 1, ?_, ?_⟩
        · refine ⟨_, rfl, _, _, rfl, rfl, (by show (0 : Int) < 2; decide), rfl, _, rfl, iteD (fun c => ?_) (fun c => ?_)⟩
          · refine ⟨_, rfl, m, Lf, C, k4, 5, rfl, M4, by decide, by decide, by omega, fun r5 H5 g0 g1 x5 M5 => ⟨rfl, _, rfl, iteD (fun c2 => ?_) (fun c2 => ?_)⟩⟩
            · have c := V.int.inj c
              have hD5 : H5 D = some (.lst (ns.map V.str)) := x5 _ _ nDx hD4
              rcases List.eq_nil_or_concat ns with z | ⟨ns0, y, z⟩
              · exfalso
                rw [z] at lns
                simp at lns
                omega
              · rw [List.concat_eq_append] at z
                have hy : y.length ≤ 8 + i := fw3 y (by rw [z]; simp)
                have hcut := cutS_length y none (some 7)
                refine ⟨_, rfl, _, rfl, D, _, _, _, rfl, rfl, SqL.of hD5, by rw [z, List.map_append]; exact atI_last _ _, _, rfl, y, rfl, (by rw [sizeLine_eq]; omega), _, _, rfl, rfl, (by rw [sizeLine_eq, show ("y" : Str).length = 1 by decide +kernel]; omega), ?_⟩
                exact ⟨_, k4 + 1, rfl, x5, (by rw [strLen_append, show ("y" : Str).length = 1 by decide +kernel]; omega), M5, by omega⟩
            · exact ⟨nm, k4 + 1, rfl, x5, by omega, M5, by omega⟩
          · exact ⟨nm, k4, rfl, fun b u n e => e, by omega, M4, by omega⟩
        · rintro σ H5 ⟨nm2, k5, rfl, x5, l5', M5, le5⟩
          have hD5 : H5 D = some (.lst (ns.map V.str)) := x5 _ _ nDx hD4
          refine ⟨_, rfl, .inl ⟨rfl, _, SqL.of hD5⟩, _, rfl, D, _, _, rfl, rfl, hD5, sz (by rw [List.length_map]; omega), ?_⟩
          have hoff : ∀ {b : Addr} {u : HO}, b ≠ D → H5 b = some u → upd H5 D (.lst (ns.map V.str ++ [V.str nm2])) b = some u := fun n e => by rw [upd_ne n]; exact e
          obtain ⟨h1, ⟨cs, h2, h3⟩, ⟨ls, h4⟩, h5⟩ := M5
          have hDl := hD5
          refine ⟨ns ++ [nm2], k5, _, _, _, rfl, fun b u n e => hoff (ne_of_none e nD) (x5 b u n (x4 b u n (x3 b u n e))), by rw [upd_same, List.map_append]; rfl, by rw [List.length_append, lns]; rfl, fun z hz => ?_, ⟨hoff (Ne.symm nDm) h1, ⟨cs, hoff ?_ h2, h3⟩, ⟨ls, hoff (Ne.symm nDL) h4⟩, h5⟩, by omega⟩
          · rcases List.mem_append.mp hz with hz | hz
            · exact Nat.le_trans (fw3 z hz) (by omega)
            · rw [List.mem_singleton] at hz
              rw [hz]
              exact l5'
          · obtain ⟨_, ⟨cs0, hC0, _⟩, _, _⟩ := M
            exact ne_of_none hC0 nD
    · rintro σ H3 ⟨ns, k3, o6, o7, o8, rfl, x3, hD3, lns, fw3, M3, le3⟩
      exact ⟨_, rfl, q D H3 ns k3 x3 nD hD3 lns (fun z hz => Nat.le_trans (fw3 z hz) (by omega)) M3 (by omega)⟩
end
end Pr
end

section
set_option Elab.async false
set_option linter.all false
set_option maxRecDepth 100000
set_option maxHeartbeats 4000000
/-! People, worths, holdings. -/
namespace Pr
open PySem L2
section
variable {P : Program} {w : World} {K : PySem.W.Frag} {mg : Str → Option Value} {base : Heap}
def spPeople : Sp := fun vs H Q _ => ∃ (m Lf C : Addr) (k : Nat), vs = [.ref m] ∧ MAt H m Lf C k ∧ k + 1000 < 2 ^ 40 ∧ ∀ p H' ns k', SameXs [m, Lf] H H' → H p = none → H' p = some (.lst (ns.map V.str)) → ns.length = 6 → Few 30 ns →
  MAt H' m Lf C k' → k' ≤ k + 1000 → Q (.ref p) H'
theorem ok_l_people (T : Txt K mg) : FnOk P w K mg base L2.CX0 4 (a_l_people K) (fdOf K (a_l_people K)) P_l_people spPeople := by
  refine T.F_l_people.ok sc_l_people (fun vs H Q E h => ?_) (fun cdv A outer s H vs Q E hr h => ?_)
  · obtain ⟨m, Lf, C, k, rfl, _⟩ := h
    rfl
  · obtain ⟨m, Lf, C, k, rfl, M, hk, q⟩ := h
    refine ⟨_, pss_one (ps_ret (pe_call (ok_l_called T) hr (by rfl) T.g__law_called (T.F_l_called).kp T.b_l_called .nil (E := E0) pass0 (pa_cons (pv 0) (pa_cons pe_int pa_nil)))), ?_⟩
    exact ⟨_, rfl, m, Lf, C, k, 6, rfl, M, by decide, hk, fun p H' ns k' x n h l f M' le => q p H' ns k' x n h l f M' le⟩
theorem pickS {xs : List Str} {r : Int} {n : Nat} (hn : xs.length = n) (h0 : 0 ≤ r) (h1 : r < n) : ∃ z, z ∈ xs ∧ atI (xs.map V.str) r = some (V.str z) := by
  obtain ⟨i, rfl⟩ := Int.eq_ofNat_of_zero_le h0
  have hi : i < xs.length := by omega
  exact ⟨xs[i], List.getElem_mem hi, atI_nat (by rw [List.getElem?_map, List.getElem?_eq_getElem hi]; rfl)⟩
theorem MAt.new {H : Hp} {m Lf C k e : _} (M : MAt H m Lf C k) (ne : H e = none) : e ∉ [m, Lf] := by
  obtain ⟨h1, _, ⟨l1, h2⟩, _⟩ := id M
  simp [(ne_of_none h1 ne).symm, (ne_of_none h2 ne).symm]
theorem MAt.tups {H H' : Hp} {m Lf C k : _} (M : MAt H m Lf C k) (x : SameXs [m, Lf] H H') : TupS H H' := fun b xs e => by
  obtain ⟨h1, _, ⟨l1, h2⟩, _⟩ := id M
  refine x b _ ?_ e
  simp [ne_of e h1 (by intro z; cases z), ne_of e h2 (by intro z; cases z)]
theorem MAt.off {H : Hp} {m Lf C k D : _} {o : HO} (M : MAt H m Lf C k) (h1 : D ≠ m) (h2 : D ≠ Lf) (h3 : D ≠ C) : MAt (upd H D o) m Lf C k := by
  obtain ⟨d, ⟨cs, c1, c2⟩, ⟨ls, l⟩, ne⟩ := M
  exact ⟨by rw [upd_ne (Ne.symm h1)]; exact d, ⟨cs, by rw [upd_ne (Ne.symm h3)]; exact c1, c2⟩, ⟨ls, by rw [upd_ne (Ne.symm h2)]; exact l⟩, ne⟩
/-- a place that was new once the machine stood -/
structure Apart (D m Lf C : Addr) : Prop where
  m : D ≠ m
  l : D ≠ Lf
  c : D ≠ C
theorem MAt.apart {H : Hp} {m Lf C k D : _} (M : MAt H m Lf C k) (n : H D = none) : Apart D m Lf C := by
  obtain ⟨d, ⟨cs, c1, c2⟩, ⟨ls, l⟩, ne⟩ := M
  exact ⟨(ne_of_none d n).symm, (ne_of_none l n).symm, (ne_of_none c1 n).symm⟩
theorem Apart.nx {D m Lf C : Addr} (a : Apart D m Lf C) : D ∉ [m, Lf] := by simp [a.m, a.l]
def spWorth : Sp := fun vs H Q _ => ∃ (m Lf C : Addr) (k : Nat), vs = [.ref m] ∧ MAt H m Lf C k ∧ k + 1000 < 2 ^ 40 ∧ ∀ z H' k', 0 ≤ z → z ≤ 9999 → SameXs [m, Lf] H H' → MAt H' m Lf C k' → k' ≤ k + 4 → Q (.int z) H'
theorem ok_l_worth (T : Txt K mg) : FnOk P w K mg base L2.CX0 3 (a_l_worth K) (fdOf K (a_l_worth K)) P_l_worth spWorth := by
  refine T.F_l_worth.ok sc_l_worth (fun vs H Q E h => ?_) (fun cdv A outer s H vs Q E hr h => ?_)
  · obtain ⟨m, Lf, C, k, rfl, _⟩ := h
    rfl
  · obtain ⟨m, Lf, C, k, rfl, M, hk, q⟩ := h
    refine ⟨_, pss_one (ps_ret (pe_ix ix_list (pe_lst (pa_cons pe_int (pa_cons pe_int (pa_cons (pe_op op_add pe_int (pe_call (ok_l_draw T) hr (by rfl) T.g__law_draw (T.F_l_draw).kp T.b_l_draw .nil (E := E0) pass0 (pa_cons (pv 0) (pa_cons pe_int pa_nil)))) (pa_cons (pe_call (ok_l_draw T) hr (by rfl) T.g__law_draw (T.F_l_draw).kp T.b_l_draw .nil (E := E0) pass0 (pa_cons (pv 0) (pa_cons pe_int pa_nil))) (pa_cons (pe_call (ok_l_draw T) hr (by rfl) T.g__law_draw (T.F_l_draw).kp T.b_l_draw .nil (E := E0) pass0 (pa_cons (pv 0) (pa_cons pe_int pa_nil))) (pa_cons pe_int (pa_cons pe_int pa_nil)))))))) (pe_call (ok_l_draw T) hr (by rfl) T.g__law_draw (T.F_l_draw).kp T.b_l_draw .nil (E := E0) pass0 (pa_cons (pv 0) (pa_cons pe_int pa_nil))) (fun _ _ => rfl))), ?_⟩
    refine ⟨_, rfl, m, Lf, C, k, 9, rfl, M, by decide, by decide, by omega, fun r1 H1 a0 a1 x1 M1 => ⟨_, _, rfl, rfl, ?_⟩⟩
    refine ⟨_, rfl, m, Lf, C, k + 1, 100, rfl, M1, by decide, by decide, by omega, fun r2 H2 b0 b1 x2 M2 => ?_⟩
    refine ⟨_, rfl, m, Lf, C, k + 1 + 1, 10000, rfl, M2, by decide, by decide, by omega, fun r3 H3 c0 c1 x3 M3 => ?_⟩
    refine ⟨(by show 7 ≤ sizeLine; decide), fun e ne => ?_⟩
    have s4 : Same H3 (upd H3 e (.lst [.int 0, .int 1, .int (1 + r1), .int r2, .int r3, .int 9999, .int 5])) := Same.new ne
    refine ⟨_, rfl, m, Lf, C, k + 1 + 1 + 1, 7, rfl, M3.same s4, by decide, by decide, by omega, fun r4 H4 d0 d1 x4 M4 => ?_⟩
    obtain ⟨z, hz, hat⟩ := pick (xs := [0, 1, 1 + r1, r2, r3, 9999, 5]) (n := 7) rfl d0 d1
    have hz2 : 0 ≤ z ∧ z ≤ 9999 := by
      simp at hz
      omega
    exact ⟨e, _, _, _, rfl, rfl, SqL.of (x4 _ _ (M3.new ne) upd_same), hat, q z H4 _ hz2.1 hz2.2 (((x1.trans x2).trans x3).trans ((Same.toXs s4).trans x4)) M4 (by omega)⟩
def HeldW (g : Held) : Prop := g.1.length ≤ 30 ∧ 0 ≤ g.2.1 ∧ g.2.1 ≤ 1000 ∧ 0 ≤ g.2.2 ∧ g.2.2 ≤ 1000
def spHoldings : Sp := fun vs H Q _ => ∃ (m Lf C pl : Addr) (k : Nat) (ps : List Str) (most : Int), vs = [.ref m, .ref pl, .int most] ∧ MAt H m Lf C k ∧ H pl = some (.lst (ps.map V.str)) ∧ pl ∉ [m, Lf] ∧ ps.length = 6 ∧ Few 30 ps ∧ 0 ≤ most ∧ most ≤ 12 ∧ k + 1000 < 2 ^ 40 ∧
  ∀ p H' vs hs k', SameXs [m, Lf] H H' → H' p = some (.tup vs) → All2 (HeldAt H') vs hs → hs.length ≤ 13 → (∀ g ∈ hs, HeldW g) → MAt H' m Lf C k' → k' ≤ k + 200 → Q (.ref p) H'
theorem ok_l_holdings (T : Txt K mg) : FnOk P w K mg base L2.CX0 3 (a_l_holdings K) (fdOf K (a_l_holdings K)) P_l_holdings spHoldings := by
  refine T.F_l_holdings.ok sc_l_holdings (fun vs H Q E h => ?_) (fun cdv A outer s H vs Q E hr h => ?_)
  · obtain ⟨m, Lf, C, pl, k, ps, most, rfl, _⟩ := h
    rfl
  · obtain ⟨m, Lf, C, pl, k, ps, most, rfl, M, hpl, npl, lps, fps, m0, m1, hk, q⟩ := h
    refine ⟨_, PSs.nox (pss_cons (ps_par (i := 3) (j := 4) (by rfl) sc_l_holdings.nd rfl rfl (by decide) rfl rfl (pa_cons (pe_lst pa_nil) (pa_cons (pe_op op_add pe_int (pe_ix ix_list (pe_lst (pa_cons pe_int (pa_cons pe_int (pa_cons (pe_call (ok_l_draw T) hr (by rfl) T.g__law_draw (T.F_l_draw).kp T.b_l_draw .nil (E := E0) pass0 (pa_cons (pv 0) (pa_cons pe_int pa_nil))) pa_nil)))) (pe_call (ok_l_draw T) hr (by rfl) T.g__law_draw (T.F_l_draw).kp T.b_l_draw .nil (E := E0) pass0 (pa_cons (pv 0) (pa_cons pe_int pa_nil))) (fun _ _ => rfl))) pa_nil)) (by rfl))
      (pss_cons (ps_for PassesOwn.never rfl (pi_range1 (by rfl) T.f_range (pa_cons (pe_call (ok_l_draw T) hr (by rfl) T.g__law_draw (T.F_l_draw).kp T.b_l_draw .nil (E := E0) pass0 (pa_cons (pv 0) (pa_cons (pe_op op_add (pv 2) pe_int) pa_nil))) pa_nil)) (pg_name (i := 5) sc_l_holdings.nd rfl (Or.inl rfl))
       (pss_one (ps_if (pt_cmpR op_le (pv 4) pe_int (nomark _)) (pss_cons (ps_set (i := 6) sc_l_holdings.nd rfl (Or.inl rfl) (pe_callB (call_min2 rfl) (by rfl) T.f_min boot_min' (pa_cons pe_int (pa_cons (pe_op op_add (pv 4) (pe_ix ix_list (pe_lst (pa_cons (pe_call (ok_l_draw T) hr (by rfl) T.g__law_draw (T.F_l_draw).kp T.b_l_draw .nil (E := E0) pass0 (pa_cons (pv 0) (pa_cons pe_int pa_nil))) (pa_cons (pe_call (ok_l_draw T) hr (by rfl) T.g__law_draw (T.F_l_draw).kp T.b_l_draw .nil (E := E0) pass0 (pa_cons (pv 0) (pa_cons pe_int pa_nil))) (pa_cons (pe_call (ok_l_draw T) hr (by rfl) T.g__law_draw (T.F_l_draw).kp T.b_l_draw .nil (E := E0) pass0 (pa_cons (pv 0) (pa_cons pe_int pa_nil))) pa_nil)))) (pe_call (ok_l_draw T) hr (by rfl) T.g__law_draw (T.F_l_draw).kp T.b_l_draw .nil (E := E0) pass0 (pa_cons (pv 0) (pa_cons pe_int pa_nil))) (fun _ _ => rfl))) pa_nil))))
        (pss_cons (ps_expr (pe_bm PySem.F.plainAttrs_list PySem.F.slot_list_append PySem.F.type_list_append mt_append (pv 3) (pa_cons (pe_tup (pa_cons (pe_ix ix_list (pv 1) (pe_call (ok_l_draw T) hr (by rfl) T.g__law_draw (T.F_l_draw).kp T.b_l_draw .nil (E := E0) pass0 (pa_cons (pv 0) (pa_cons pe_int pa_nil))) (fun _ _ => rfl)) (pa_cons (pv 4) (pa_cons (pv 6) pa_nil)))) pa_nil)))
        (pss_one (ps_set (i := 4) sc_l_holdings.nd rfl (Or.inl rfl) (pe_op op_add (pe_op op_add (pv 6) pe_int) (pe_ix ix_list (pe_lst (pa_cons pe_int (pa_cons pe_int (pa_cons (pe_call (ok_l_draw T) hr (by rfl) T.g__law_draw (T.F_l_draw).kp T.b_l_draw .nil (E := E0) pass0 (pa_cons (pv 0) (pa_cons pe_int pa_nil))) pa_nil)))) (pe_call (ok_l_draw T) hr (by rfl) T.g__law_draw (T.F_l_draw).kp T.b_l_draw .nil (E := E0) pass0 (pa_cons (pv 0) (pa_cons pe_int pa_nil))) (fun _ _ => rfl))))))) pss_nil)))
      (pss_one (ps_ret (pe_callTy (call_tupK (K := K) rfl) (by rfl) T.f_tuple boot_tuple' (pa_cons (pv 3) pa_nil)))))), ?_⟩
    refine ⟨Nat.zero_le _, fun D nD => ?_⟩
    have sD : Same H (upd H D (.lst [])) := Same.new nD
    have aD := M.apart nD
    refine ⟨_, rfl, m, Lf, C, k, 60, rfl, M.same sD, by decide, by decide, by omega, fun r1 H1 a0 a1 x1 M1 => ?_⟩
    refine ⟨(by show 3 ≤ sizeLine; decide), fun e ne => ?_⟩
    have s2 : Same H1 (upd H1 e (.lst [.int 0, .int 0, .int r1])) := Same.new ne
    refine ⟨_, rfl, m, Lf, C, k + 1, 3, rfl, M1.same s2, by decide, by decide, by omega, fun r2 H2 b0 b1 x2 M2 => ?_⟩
    obtain ⟨d0, hd0, hat⟩ := pick (xs := [0, 0, r1]) (n := 3) rfl b0 b1
    have hd0 : 0 ≤ d0 ∧ d0 < 60 := by
      simp at hd0
      omega
    refine ⟨e, _, _, _, rfl, rfl, SqL.of (x2 _ _ (M1.new ne) upd_same), hat, _, _, rfl, rfl, _, _, rfl, ?_⟩
    have x02 : SameXs [m, Lf] H H2 := ((Same.toXs sD).trans x1).trans ((Same.toXs s2).trans x2)
    have hD2 : H2 D = some (.lst []) := x2 _ _ aD.nx (s2 _ _ (x1 _ _ aD.nx upd_same))
    refine ⟨_, rfl, _, rfl, _, _, rfl, rfl, ?_⟩
    refine ⟨m, Lf, C, k + 1 + 1, most + 1, rfl, M2, by omega, by omega, by omega, fun r3 H3 c0 c1 x3 M3 => ?_⟩
    refine ⟨r3, rfl, by omega, by omega, for_range (lo := 0) (n := r3.toNat) (fun i σ H' => ∃ (day : Int) (vs : List V) (hs : List Held) (k' : Nat) (o5 o6 : Option V), σ = [some (.ref m), some (.ref pl), some (.int most), some (.ref D), some (.int day), o5, o6] ∧ SameXs [m, Lf] H H' ∧
        H' D = some (.lst vs) ∧ All2 (HeldAt H') vs hs ∧ hs.length ≤ i ∧ (∀ g ∈ hs, HeldW g) ∧ 1 ≤ day ∧ day ≤ 500 ∧ MAt H' m Lf C k' ∧ k' ≤ k + 3 + 8 * i) ⟨1 + d0, [], [], k + 1 + 1 + 1, none, none, rfl, x02.trans x3, x3 _ _ aD.nx hD2, True.intro, Nat.le_refl _, fun g hg => by simp at hg, by omega, by omega, M3, by omega⟩ ?_ ?_⟩
    · rintro i σ H4 hi ⟨day, vs, hs, k4, o5, o6, rfl, x4, hD4, hvs, lhs, whs, dy0, dy1, M4, le4⟩
      have hi13 : i < 13 := by omega
      refine ⟨_, rfl, _, _, rfl, rfl, _, rfl, iteD (fun c => ?_) (fun c => ⟨day, vs, hs, k4, _, _, rfl, x4, hD4, hvs, by omega, whs, dy0, dy1, M4, by omega⟩)⟩
      -- last
      refine ⟨_, rfl, _, rfl, m, Lf, C, k4, 360, rfl, M4, by decide, by decide, by omega, fun s1 H5 e0 e1 x5 M5 => ?_⟩
      refine ⟨_, rfl, m, Lf, C, k4 + 1, 90, rfl, M5, by decide, by decide, by omega, fun s2 H6 f0 f1 x6 M6 => ?_⟩
      refine ⟨_, rfl, m, Lf, C, k4 + 1 + 1, 8, rfl, M6, by decide, by decide, by omega, fun s3 H7 g0 g1 x7 M7 => ?_⟩
      refine ⟨(by show 3 ≤ sizeLine; decide), fun e7 ne7 => ?_⟩
      have y7 : Same H7 (upd H7 e7 (.lst [.int s1, .int s2, .int s3])) := Same.new ne7
      refine ⟨_, rfl, m, Lf, C, k4 + 1 + 1 + 1, 3, rfl, M7.same y7, by decide, by decide, by omega, fun s4 H8 h0 h1 x8 M8 => ?_⟩
      obtain ⟨t, ht, hat2⟩ := pick (xs := [s1, s2, s3]) (n := 3) rfl h0 h1
      have ht : 0 ≤ t ∧ t < 360 := by
        simp at ht
        omega
      refine ⟨e7, _, _, _, rfl, rfl, SqL.of (x8 _ _ (M7.new ne7) upd_same), hat2, _, _, rfl, rfl, _, _, rfl, ?_⟩
      have x48 : SameXs [m, Lf] H4 H8 := (x5.trans (x6.trans x7)).trans ((Same.toXs y7).trans x8)
      obtain ⟨last, hlast⟩ : ∃ last : Int, last = (if day + t < 360 then day + t else 360) := ⟨_, rfl⟩
      have l0 : 0 ≤ last ∧ last ≤ 360 := by
        rw [hlast]
        split <;> omega
      rw [← hlast]
      have hD8 : H8 D = some (.lst vs) := x48 _ _ aD.nx hD4
      -- append
      refine ⟨_, rfl, .inl ⟨rfl, _, SqL.of hD8⟩, _, rfl, _, rfl, m, Lf, C, k4 + 1 + 1 + 1 + 1, 6, rfl, M8, by decide, by decide, by omega, fun s5 H9 i0 i1 x9 M9 => ?_⟩
      have x49 : SameXs [m, Lf] H4 H9 := x48.trans x9
      obtain ⟨who, hwho, hatw⟩ := pickS (n := 6) lps i0 i1
      refine ⟨pl, _, _, _, rfl, rfl, SqL.of (x49 _ _ npl (x4 _ _ npl hpl)), hatw, _, rfl, _, rfl, (by show 3 ≤ sizeLine; decide), fun tp ntp => ?_⟩
      have st : Same H9 (upd H9 tp (.tup [.str who, .int day, .int last])) := Same.new ntp
      have hD9 := st _ _ (x49 _ _ aD.nx hD4)
      refine ⟨D, _, _, rfl, rfl, hD9, sz (by rw [hvs.length]; omega), ?_⟩
      obtain ⟨H10, eq10⟩ : ∃ H10, H10 = upd (upd H9 tp (.tup [.str who, .int day, .int last])) D (.lst (vs ++ [.ref tp])) := ⟨_, rfl⟩
      rw [← eq10]
      have M10 : MAt H10 m Lf C (k4 + 1 + 1 + 1 + 1 + 1) := by
        rw [eq10]
        exact (M9.same st).off aD.m aD.l aD.c
      have t10 : TupS H4 H10 := by
        rw [eq10]
        exact (M4.tups x49).trans ((Same.tups st).trans (TupS.lst hD9))
      have hD10 : H10 D = some (.lst (vs ++ [.ref tp])) := by
        rw [eq10]
        exact upd_same
      have htp : H10 tp = some (.tup [.str who, .int day, .int last]) := by
        rw [eq10]
        exact TupS.lst hD9 _ _ upd_same
      have xD : SameXs [m, Lf] H H10 := fun b u n eb => by
        rw [eq10, upd_ne (ne_of_none eb nD)]
        exact st _ _ (x49 b u n (x4 b u n eb))
      -- day
      refine ⟨_, rfl, _, _, rfl, rfl, _, rfl, m, Lf, C, k4 + 1 + 1 + 1 + 1 + 1, 40, rfl, M10, by decide, by decide, by omega, fun s6 H11 j0 j1 x11 M11 => ?_⟩
      refine ⟨(by show 3 ≤ sizeLine; decide), fun e11 ne11 => ?_⟩
      have y11 : Same H11 (upd H11 e11 (.lst [.int 0, .int 0, .int s6])) := Same.new ne11
      refine ⟨_, rfl, m, Lf, C, k4 + 1 + 1 + 1 + 1 + 1 + 1, 3, rfl, M11.same y11, by decide, by decide, by omega, fun s7 H12 q0 q1 x12 M12 => ?_⟩
      obtain ⟨u, hu, hatu⟩ := pick (xs := [0, 0, s6]) (n := 3) rfl q0 q1
      have hu : 0 ≤ u ∧ u < 40 := by
        simp at hu
        omega
      have x10 : SameXs [m, Lf] H10 H12 := x11.trans ((Same.toXs y11).trans x12)
      refine ⟨e11, _, _, _, rfl, rfl, SqL.of (x12 _ _ (M11.new ne11) upd_same), hatu, _, _, rfl, rfl, ?_⟩
      have t12 : TupS H4 H12 := t10.trans (M10.tups x10)
      refine ⟨last + 1 + u, vs ++ [.ref tp], hs ++ [(who, day, last)], _, _, _, rfl, xD.trans x10, x10 _ _ aD.nx hD10, (hvs.mono (heldT _ _ t12)).snoc ⟨tp, rfl, (M10.tups x10) _ _ htp⟩, by rw [List.length_append]; show hs.length + 1 ≤ i + 1; omega, fun g hg => ?_, by omega, by omega, M12, by omega⟩
      rcases List.mem_append.mp hg with hg | hg
      · exact whs g hg
      · rw [List.mem_singleton] at hg
        subst hg
        exact ⟨fps who hwho, by show 0 ≤ day; omega, by show day ≤ 1000; omega, l0.1, by show last ≤ 1000; omega⟩
    · rintro σ H4 ⟨day, vs, hs, k4, o5, o6, rfl, x4, hD4, hvs, lhs, whs, dy0, dy1, M4, le4⟩
      refine ⟨_, rfl, D, vs, rfl, .inl ⟨SqL.of hD4, fun p np => ?_⟩⟩
      have sp : Same H4 (upd H4 p (.tup vs)) := Same.new np
      exact q p _ vs hs k4 (x4.trans (Same.toXs sp)) upd_same (hvs.mono (HeldAt.mono sp)) (by omega) whs (M4.same sp) (by omega)
end
end Pr
end

section
set_option Elab.async false
set_option linter.all false
set_option maxRecDepth 100000
set_option maxHeartbeats 4000000
/-! A county. -/
namespace Pr
open PySem L2
section
variable {P : Program} {w : World} {K : PySem.W.Frag} {mg : Str → Option Value} {base : Heap}
def HouseW (h : House) : Prop := h.1.length ≤ 30 ∧ 0 ≤ h.2.1 ∧ h.2.1 ≤ 9999 ∧ h.2.2.length ≤ 13 ∧ ∀ g ∈ h.2.2, HeldW g
def ParW (p : Parish) : Prop := p.1.length ≤ 30 ∧ p.2.length ≤ 4 ∧ ∀ h ∈ p.2, HouseW h
def spCounty : Sp := fun vs H Q _ => ∃ (m Lf C pl : Addr) (k : Nat) (ps : List Str), vs = [.ref m, .ref pl, .int 3, .int 4] ∧ MAt H m Lf C k ∧ H pl = some (.lst (ps.map V.str)) ∧ pl ∉ [m, Lf] ∧ ps.length = 6 ∧ Few 30 ps ∧ k + 10000 < 2 ^ 40 ∧
  ∀ p H' cs k', SameXs [m, Lf] H H' → OCo H' p cs → cs.length ≤ 3 → 1 ≤ cs.length → (∀ c ∈ cs, ParW c) → MAt H' m Lf C k' → k' ≤ k + 10000 → Q (.ref p) H'
theorem ok_l_county (T : Txt K mg) : FnOk P w K mg base L2.CX0 5 (a_l_county K) (fdOf K (a_l_county K)) P_l_county spCounty := by
  refine T.F_l_county.ok sc_l_county (fun vs H Q E h => ?_) (fun cdv A outer s H vs Q E hr h => ?_)
  · obtain ⟨m, Lf, C, pl, k, ps, rfl, _⟩ := h
    rfl
  · obtain ⟨m, Lf, C, pl, k, ps, rfl, M, hpl, npl, lps, fps, hk, q⟩ := h
    refine ⟨_, PSs.nox (pss_cons (ps_par (i := 4) (j := 5) (by rfl) sc_l_county.nd rfl rfl (by decide) rfl rfl (pa_cons (pe_call (ok_l_called T) (hr.mono (by decide)) (by rfl) T.g__law_called (T.F_l_called).kp T.b_l_called .nil (E := E0) pass0 (pa_cons (pv 0) (pa_cons (pe_op op_add pe_int (pe_op op_mul (pv 2) (pv 3))) pa_nil))) (pa_cons (pe_lst pa_nil) pa_nil)) (by rfl))
      (pss_cons (ps_for PassesOwn.never rfl (pi_range1 (by rfl) T.f_range (pa_cons (pe_op op_add pe_int (pe_call (ok_l_draw T) (hr.mono (by decide)) (by rfl) T.g__law_draw (T.F_l_draw).kp T.b_l_draw .nil (E := E0) pass0 (pa_cons (pv 0) (pa_cons (pv 2) pa_nil)))) pa_nil)) (pg_name (i := 6) sc_l_county.nd rfl (Or.inl rfl))
       (pss_cons (ps_set (i := 7) sc_l_county.nd rfl (Or.inl rfl) (pe_lst pa_nil))
       (pss_cons (ps_for PassesOwn.never rfl (pi_range1 (by rfl) T.f_range (pa_cons (pe_op op_add pe_int (pe_call (ok_l_draw T) (hr.mono (by decide)) (by rfl) T.g__law_draw (T.F_l_draw).kp T.b_l_draw .nil (E := E0) pass0 (pa_cons (pv 0) (pa_cons (pv 3) pa_nil)))) pa_nil)) (pg_name (i := 8) sc_l_county.nd rfl (Or.inl rfl))
        (pss_cons (ps_set (i := 9) sc_l_county.nd rfl (Or.inl rfl) (pe_callB (call_max2 rfl) (by rfl) T.f_max boot_max' (pa_cons (pe_call (ok_l_worth T) (hr.mono (by decide)) (by rfl) T.g__law_worth (T.F_l_worth).kp T.b_l_worth .nil (E := E0) pass0 (pa_cons (pv 0) pa_nil)) (pa_cons (pe_callTy call_int1 (by rfl) T.f_int boot_int' (pa_cons (pe_cmpR op_eq (pe_op op_add (pv 6) (pv 8)) pe_int (nomark _)) pa_nil)) pa_nil))))
        (pss_one (ps_expr (pe_bm PySem.F.plainAttrs_list PySem.F.slot_list_append PySem.F.type_list_append mt_append (pv 7) (pa_cons (pe_tup (pa_cons (pe_ix ix_list (pv 4) (pe_op op_add (pe_op op_add pe_int (pe_op op_mul (pv 6) (pv 3))) (pv 8)) (fun _ _ => rfl)) (pa_cons (pv 9) (pa_cons (pe_call (ok_l_holdings T) (hr.mono (by decide)) (by rfl) T.g__law_holdings (T.F_l_holdings).kp T.b_l_holdings .nil (E := E0) pass0 (pa_cons (pv 0) (pa_cons (pv 1) (pa_cons (pe_ix ix_list (pe_lst (pa_cons pe_int (pa_cons pe_int (pa_cons pe_int pa_nil)))) (pe_call (ok_l_draw T) (hr.mono (by decide)) (by rfl) T.g__law_draw (T.F_l_draw).kp T.b_l_draw .nil (E := E0) pass0 (pa_cons (pv 0) (pa_cons pe_int pa_nil))) (fun _ _ => rfl)) pa_nil)))) pa_nil)))) pa_nil))))))
       (pss_one (ps_expr (pe_bm PySem.F.plainAttrs_list PySem.F.slot_list_append PySem.F.type_list_append mt_append (pv 5) (pa_cons (pe_tup (pa_cons (pe_ix ix_list (pv 4) (pv 6) (fun _ _ => rfl)) (pa_cons (pe_callTy (call_tupK (K := K) rfl) (by rfl) T.f_tuple boot_tuple' (pa_cons (pv 7) pa_nil)) pa_nil))) pa_nil)))))))
      (pss_one (ps_ret (pe_callTy (call_tupK (K := K) rfl) (by rfl) T.f_tuple boot_tuple' (pa_cons (pv 5) pa_nil)))))), ?_⟩
    refine ⟨_, rfl, _, rfl, _, rfl, _, _, rfl, rfl, .inl (by decide), _, _, rfl, rfl, ?_⟩
    refine ⟨m, Lf, C, k, 20, rfl, M, by decide, by omega, fun nl H1 nms k1 x1 nnl hnl lnl fnl M1 le1 => ?_⟩
    refine ⟨Nat.zero_le _, fun D nD => ⟨_, _, rfl, ?_⟩⟩
    have sD : Same H1 (upd H1 D (.lst [])) := Same.new nD
    have aD := M1.apart nD
    have anl := M.apart nnl
    have x0D : SameXs [m, Lf] H (upd H1 D (.lst [])) := x1.trans (Same.toXs sD)
    refine ⟨_, rfl, _, rfl, m, Lf, C, k1, 3, rfl, M1.same sD, by decide, by decide, by omega, fun r2 H2 b0 b1 x2 M2 => ⟨_, _, rfl, rfl, ?_⟩⟩
    have x02 := x0D.trans x2
    have hnl2 : H2 nl = some (.lst (nms.map V.str)) := x2 _ _ anl.nx (sD _ _ hnl)
    have hD2 : H2 D = some (.lst []) := x2 _ _ aD.nx upd_same
    have nlD : nl ≠ D := ne_of_none hnl nD
    refine ⟨1 + r2, rfl, by omega, by omega, for_range (lo := 0) (n := (1 + r2).toNat) (fun i σ H' => ∃ (vs : List V) (cs : List Parish) (k' : Nat) (o6 o7 o8 o9 : Option V), σ = [some (.ref m), some (.ref pl), some (.int 3), some (.int 4), some (.ref nl), some (.ref D), o6, o7, o8, o9] ∧
        (∀ b u, b ∉ [m, Lf] → b ≠ D → H2 b = some u → H' b = some u) ∧ H' D = some (.lst vs) ∧ All2 (OPar H') vs cs ∧ cs.length = i ∧ (∀ c ∈ cs, ParW c) ∧ MAt H' m Lf C k' ∧ k' ≤ k + 1001 + 900 * i) ⟨[], [], k1 + 1, none, none, none, none, rfl, fun b u _ _ e => e, hD2, True.intro, rfl, fun c hc => by simp at hc, M2, by omega⟩ ?_ ?_⟩
    · rintro i σ H3 hi ⟨vs, cs, k3, o6, o7, o8, o9, rfl, x3, hD3, hvs, lcs, wcs, M3, le3⟩
      have e0 : (0 : Int) + (i : Int) = ((i : Nat) : Int) := by omega
      rw [e0]
      have hi3 : i < 3 := by omega
      refine ⟨Nat.zero_le _, fun D2 nD2 => ?_⟩
      have aD2 := M3.apart nD2
      have s4 : Same H3 (upd H3 D2 (.lst [])) := Same.new nD2
      have nDD : D ≠ D2 := ne_of_none hD3 nD2
      refine ⟨_, rfl, _, rfl, m, Lf, C, k3, 4, rfl, M3.same s4, by decide, by decide, by omega, fun r4 H4 c0 c1 x4 M4 => ⟨_, _, rfl, rfl, ?_⟩⟩
      have x34 : SameXs [m, Lf] H3 H4 := (Same.toXs s4).trans x4
      have hD24 : H4 D2 = some (.lst []) := x4 _ _ aD2.nx upd_same
      have hD4 : H4 D = some (.lst vs) := x34 _ _ aD.nx hD3
      refine ⟨1 + r4, rfl, by omega, by omega, for_range (lo := 0) (n := (1 + r4).toNat) (fun j σ H' => ∃ (us : List V) (hs : List House) (k' : Nat) (o8 o9 : Option V), σ = [some (.ref m), some (.ref pl), some (.int 3), some (.int 4), some (.ref nl), some (.ref D), some (.int i), some (.ref D2), o8, o9] ∧
          (∀ b u, b ∉ [m, Lf] → b ≠ D2 → H4 b = some u → H' b = some u) ∧ H' D2 = some (.lst us) ∧ All2 (OHouse H') us hs ∧ hs.length ≤ j ∧ (∀ h ∈ hs, HouseW h) ∧ MAt H' m Lf C k' ∧ k' ≤ k3 + 1 + 205 * j) ⟨[], [], k3 + 1, _, _, rfl, fun b u _ _ e => e, hD24, True.intro, Nat.le_refl _, fun c hc => by simp at hc, M4, by omega⟩ ?_ ?_⟩
      · rintro j σ H5 hj ⟨us, hs, k5, o8, o9, rfl, x5, hD25, hus, lhs, whs, M5, le5⟩
        have e1 : (0 : Int) + (j : Int) = ((j : Nat) : Int) := by omega
        rw [e1]
        have hj4 : j < 4 := by omega
        refine ⟨_, rfl, m, Lf, C, k5, rfl, M5, by omega, fun z H6 k6 z0 z1 x6 M6 le6 => ?_⟩
        refine ⟨_, rfl, _, rfl, _, _, rfl, rfl, rfl, .inr ⟨_, rfl, _, _, rfl, ?_⟩⟩
        obtain ⟨wz, hwz⟩ : ∃ wz : Int, wz = (if (if decide (V.int ((i : Int) + (j : Int)) = V.int 0) = true then (1 : Int) else 0) > z then (if decide (V.int ((i : Int) + (j : Int)) = V.int 0) = true then (1 : Int) else 0) else z) := ⟨_, rfl⟩
        have wz0 : 0 ≤ wz ∧ wz ≤ 9999 := by
          rw [hwz]
          split <;> split <;> omega
        have hD26 : H6 D2 = some (.lst us) := x6 _ _ aD2.nx hD25
        rw [← hwz]
        have k36 : ∀ {b : Addr} {u : HO}, b ∉ [m, Lf] → b ≠ D2 → H3 b = some u → H6 b = some u := fun n n2 e => x6 _ _ n (x5 _ _ n n2 (x34 _ _ n e))
        have hnl6 : H6 nl = some (.lst (nms.map V.str)) := k36 anl.nx (ne_of_none (x3 _ _ anl.nx nlD hnl2) nD2) (x3 _ _ anl.nx nlD hnl2)
        have plD : pl ≠ D := ne_of_none (x1 _ _ npl hpl) nD
        have hpl3 : H3 pl = some (.lst (ps.map V.str)) := x3 _ _ npl plD (x02 _ _ npl hpl)
        have hpl6 : H6 pl = some (.lst (ps.map V.str)) := k36 npl (ne_of_none hpl3 nD2) hpl3
        obtain ⟨nm, hnm, hat⟩ := pickS (xs := nms) (r := 8 + (i : Int) * 4 + (j : Int)) (n := 20) lnl (by omega) (by omega)
        refine ⟨_, rfl, .inl ⟨rfl, _, SqL.of hD26⟩, _, rfl, _, rfl, _, rfl, _, _, rfl, rfl, .inr (by decide), _, _, rfl, rfl, _, rfl, _, _, rfl, rfl, nl, _, _, _, rfl, rfl, SqL.of hnl6, hat, _, rfl, _, rfl, _, rfl, (by show 3 ≤ sizeLine; decide), fun e ne => ?_⟩
        have y6 : Same H6 (upd H6 e (.lst [.int 2, .int 5, .int 12])) := Same.new ne
        refine ⟨_, rfl, m, Lf, C, k6, 3, rfl, M6.same y6, by decide, by decide, by omega, fun r7 H7 f0 f1 x7 M7 => ?_⟩
        obtain ⟨most, hmost, hatm⟩ := pick (xs := [2, 5, 12]) (n := 3) rfl f0 f1
        have hmost : 0 ≤ most ∧ most ≤ 12 := by
          simp at hmost
          omega
        have x67 : SameXs [m, Lf] H6 H7 := (Same.toXs y6).trans x7
        refine ⟨e, _, _, _, rfl, rfl, SqL.of (x7 _ _ (M6.new ne) upd_same), hatm, m, Lf, C, pl, k6 + 1, ps, most, rfl, M7, x67 _ _ npl hpl6, npl, lps, fps, hmost.1, hmost.2, by omega, fun hp H8 hvv hh k8 x8 hhp hall lhh whh M8 le8 => ?_⟩
        refine ⟨(by show 3 ≤ sizeLine; decide), fun t nt => ?_⟩
        have st : Same H8 (upd H8 t (.tup [.str nm, .int wz, .ref hp])) := Same.new nt
        have x58 : SameXs [m, Lf] H5 H8 := x6.trans (x67.trans x8)
        have hD28 := st _ _ (x58 _ _ aD2.nx hD25)
        refine ⟨D2, _, _, rfl, rfl, hD28, sz (by rw [hus.length]; omega), ?_⟩
        obtain ⟨H9, eq9⟩ : ∃ H9, H9 = upd (upd H8 t (.tup [.str nm, .int wz, .ref hp])) D2 (.lst (us ++ [.ref t])) := ⟨_, rfl⟩
        rw [← eq9]
        have t89 : TupS H8 H9 := by
          rw [eq9]
          exact (Same.tups st).trans (TupS.lst hD28)
        have t59 : TupS H5 H9 := (M5.tups x58).trans t89
        have ht9 : H9 t = some (.tup [.str nm, .int wz, .ref hp]) := by
          rw [eq9]
          exact TupS.lst hD28 _ _ upd_same
        refine ⟨us ++ [.ref t], hs ++ [(nm, wz, hh)], k8, _, _, rfl, fun b u n n2 eb => ?_, by rw [eq9]; exact upd_same, (hus.mono (ohouseT _ _ t59)).snoc ⟨t, hp, hvv, rfl, ht9, t89 _ _ hhp, hall.mono (heldT _ _ t89)⟩, by rw [List.length_append]; show hs.length + 1 ≤ j + 1; omega, fun h hh' => ?_, ?_, by omega⟩
        · rw [eq9, upd_ne n2]
          exact st _ _ (x58 _ _ n (x5 _ _ n n2 eb))
        · rcases List.mem_append.mp hh' with hh' | hh'
          · exact whs h hh'
          · rw [List.mem_singleton] at hh'
            subst hh'
            exact ⟨fnl nm hnm, wz0.1, wz0.2, lhh, whh⟩
        · rw [eq9]
          exact (M8.same st).off aD2.m aD2.l aD2.c
      · rintro σ H5 ⟨us, hs, k5, o8, o9, rfl, x5, hD25, hus, lhs, whs, M5, le5⟩
        have k35 : ∀ {b : Addr} {u : HO}, b ∉ [m, Lf] → b ≠ D2 → H3 b = some u → H5 b = some u := fun n n2 e => x5 _ _ n n2 (x34 _ _ n e)
        have hnl5 : H5 nl = some (.lst (nms.map V.str)) := k35 anl.nx (ne_of_none (x3 _ _ anl.nx nlD hnl2) nD2) (x3 _ _ anl.nx nlD hnl2)
        have hD5 : H5 D = some (.lst vs) := k35 aD.nx nDD hD3
        obtain ⟨nm, hnm, hat⟩ := pickS (xs := nms) (r := (i : Int)) (n := 20) lnl (by omega) (by omega)
        refine ⟨_, rfl, .inl ⟨rfl, _, SqL.of hD5⟩, _, rfl, _, rfl, nl, _, _, _, rfl, rfl, SqL.of hnl5, hat, _, rfl, D2, us, rfl, .inl ⟨SqL.of hD25, fun c nc => ⟨(by show 2 ≤ sizeLine; decide), fun t nt => ?_⟩⟩⟩
        obtain ⟨ntc, nt'⟩ := new_upd nt
        have st : Same H5 (upd (upd H5 c (.tup us)) t (.tup [.str nm, .ref c])) := (Same.new nc).trans (Same.new nt)
        have hD6 := st _ _ hD5
        refine ⟨D, _, _, rfl, rfl, hD6, sz (by rw [hvs.length]; omega), ?_⟩
        obtain ⟨H7, eq7⟩ : ∃ H7, H7 = upd (upd (upd H5 c (.tup us)) t (.tup [.str nm, .ref c])) D (.lst (vs ++ [.ref t])) := ⟨_, rfl⟩
        rw [← eq7]
        have t57 : TupS H5 H7 := by
          rw [eq7]
          exact (Same.tups st).trans (TupS.lst hD6)
        have t35 : TupS H3 H5 := fun b xs e => by
          obtain ⟨h1, _, ⟨l1, h2⟩, _⟩ := id M3
          exact k35 (by simp [ne_of e h1 (by intro z; cases z), ne_of e h2 (by intro z; cases z)]) (ne_of_none e nD2) e
        have ht7 : H7 t = some (.tup [.str nm, .ref c]) := by
          rw [eq7]
          exact TupS.lst hD6 _ _ upd_same
        have hc7 : H7 c = some (.tup us) := by
          rw [eq7]
          exact TupS.lst hD6 _ _ (by rw [upd_ne (Ne.symm ntc), upd_same])
        refine ⟨vs ++ [.ref t], cs ++ [(nm, hs)], k5, _, _, _, _, rfl, fun b u n n2 eb => ?_, by rw [eq7]; exact upd_same, (hvs.mono (oparT _ _ (t35.trans t57))).snoc ⟨t, c, us, rfl, ht7, hc7, hus.mono (ohouseT _ _ t57)⟩, by rw [List.length_append]; show cs.length + 1 = i + 1; omega, fun p hp' => ?_, ?_, by omega⟩
        · rw [eq7, upd_ne n2]
          have e3 := x3 b u n n2 eb
          exact st _ _ (k35 n (ne_of_none e3 nD2) e3)
        · rcases List.mem_append.mp hp' with hp' | hp'
          · exact wcs p hp'
          · rw [List.mem_singleton] at hp'
            subst hp'
            exact ⟨fnl nm hnm, by show hs.length ≤ 4; omega, whs⟩
        · rw [eq7]
          exact (M5.same st).off aD.m aD.l aD.c
    · rintro σ H3 ⟨vs, cs, k3, o6, o7, o8, o9, rfl, x3, hD3, hvs, lcs, wcs, M3, le3⟩
      refine ⟨_, rfl, D, vs, rfl, .inl ⟨SqL.of hD3, fun p np => ?_⟩⟩
      have sp : Same H3 (upd H3 p (.tup vs)) := Same.new np
      refine q p _ cs k3 (fun b u n e => sp _ _ (x3 b u n (ne_of_none (x1 b u n e) nD) (x02 b u n e))) ⟨vs, upd_same, hvs.mono (oparT _ _ (Same.tups sp))⟩ (by omega) (by omega) wcs (M3.same sp) (by omega)
end
end Pr
end

section
set_option Elab.async false
set_option linter.all false
set_option maxRecDepth 100000
set_option maxHeartbeats 4000000
/-! Rows of words, their text. -/
namespace Pr
open PySem L2
section
variable {P : Program} {w : World} {K : PySem.W.Frag} {mg : Str → Option Value} {base : Heap}
theorem sz2 {n : Nat} (h : n ≤ 10000) : n < sizeLine := Nat.lt_of_le_of_lt h (by decide)
def RowW (H : Hp) (n : Nat) (x : Addr × List Str) : Prop := H x.1 = some (.lst (x.2.map V.str)) ∧ 1 ≤ x.2.length ∧ x.2.length ≤ n ∧ Few 30 x.2
def vRow (x : Addr × List Str) : V := .ref x.1
def RowsAt (H : Hp) (p : Addr) (n r : Nat) : Prop := ∃ its : List (Addr × List Str), H p = some (.lst (its.map vRow)) ∧ (∀ x ∈ its, RowW H n x) ∧ 1 ≤ its.length ∧ its.length ≤ r
theorem RowW.same {H H' : Hp} {n : Nat} {x : Addr × List Str} (h : RowW H n x) (s : Same H H') : RowW H' n x := ⟨s _ _ h.1, h.2⟩
theorem RowsAt.same {H H' : Hp} {p : Addr} {n r : Nat} (h : RowsAt H p n r) (s : Same H H') : RowsAt H' p n r := by
  obtain ⟨its, h1, h2, h3, h4⟩ := h
  exact ⟨its, s _ _ h1, fun x hx => (h2 x hx).same s, h3, h4⟩
theorem few3 {a b c : Str} (h1 : a.length ≤ 30) (h2 : b.length ≤ 30) (h3 : c.length ≤ 30) : Few 30 [a, b, c] := fun z hz => by
  simp at hz
  rcases hz with rfl | rfl | rfl
  · exact h1
  · exact h2
  · exact h3
def spRows (K : PySem.W.Frag) : Sp := fun vs H Q _ => ∃ (p : Addr) (cs : List Parish), vs = [.ref p] ∧ OCo H p cs ∧ cs.length ≤ 3 ∧ 1 ≤ cs.length ∧ (∀ c ∈ cs, ParW c) ∧ ∀ q H', H q = none → Same H H' → RowsAt H' q 4 171 → Q (.ref q) H'
theorem i30 {z : Int} (h0 : 0 ≤ z) (h1 : z ≤ 9999) : ((toString z : String) : Str).length ≤ 30 := Nat.le_trans (int_shown h0 h1).1 (by decide)
/-- rows so far, in the list at D -/
structure RwAt (H0 H : Hp) (D : Addr) (lo hi : Nat) : Prop where
  s : Same H0 H
  r : ∃ its : List (Addr × List Str), H D = some (.lst (its.map vRow)) ∧ (∀ x ∈ its, RowW H 4 x ∧ x.1 ≠ D) ∧ lo ≤ its.length ∧ its.length ≤ hi
theorem RwAt.add {H0 H H4 : Hp} {D a : Addr} {lo hi : Nat} {its : List (Addr × List Str)} {ws : List Str} (n : H0 D = none) (h : H D = some (.lst (its.map vRow))) (hr : ∀ x ∈ its, RowW H 4 x ∧ x.1 ≠ D) (h1 : lo ≤ its.length) (h2 : its.length ≤ hi) (s0 : Same H0 H) (s : Same H H4) (ha : H4 a = some (.lst (ws.map V.str))) (na : a ≠ D)
    (w1 : 1 ≤ ws.length) (w2 : ws.length ≤ 4) (w3 : Few 30 ws) : RwAt H0 (upd H4 D (.lst (its.map vRow ++ [.ref a]))) D (lo + 1) (hi + 1) := by
  refine ⟨fun b u e => ?_, its ++ [(a, ws)], by rw [upd_same, List.map_append]; rfl, fun x hx => ?_, by rw [List.length_append]; show lo + 1 ≤ its.length + 1; omega, by rw [List.length_append]; show its.length + 1 ≤ hi + 1; omega⟩
  · rw [upd_ne (ne_of_none e n)]
    exact s _ _ (s0 _ _ e)
  · rcases List.mem_append.mp hx with hx | hx
    · obtain ⟨⟨q1, q2⟩, q3⟩ := hr x hx
      exact ⟨⟨by rw [upd_ne q3]; exact s _ _ q1, q2⟩, q3⟩
    · rw [List.mem_singleton] at hx
      subst hx
      exact ⟨⟨by show upd H4 D _ a = _; rw [upd_ne na]; exact ha, w1, w2, w3⟩, na⟩
theorem RwAt.le {H0 H : Hp} {D : Addr} {lo hi lo' hi' : Nat} (h : RwAt H0 H D lo hi) (h1 : lo' ≤ lo) (h2 : hi ≤ hi') : RwAt H0 H D lo' hi' := by
  obtain ⟨s, its, a, b, c, d⟩ := h
  exact ⟨s, its, a, b, by omega, by omega⟩
theorem ok_l_rows (T : Txt K mg) : FnOk P w K mg base L2.CX0 1 (a_l_rows K) (fdOf K (a_l_rows K)) P_l_rows (spRows K) := by
  refine T.F_l_rows.ok sc_l_rows (fun vs H Q E h => ?_) (fun cdv A outer s H vs Q E hr h => ?_)
  · obtain ⟨p, cs, rfl, _⟩ := h
    rfl
  · obtain ⟨p, cs, rfl, ⟨pvs, hp, hall⟩, l3, l1, wk, q⟩ := h
    refine ⟨_, PSs.nox (pss_cons (ps_set (i := 1) sc_l_rows.nd rfl (Or.inl rfl) (pe_lst pa_nil))
      (pss_cons (ps_for PassesOwn.never rfl (pi_tup (pv 0)) (pg_tup rfl (pgs_cons (pg_name (i := 2) sc_l_rows.nd rfl (Or.inl rfl)) (pgs_cons (pg_name (i := 3) sc_l_rows.nd rfl (Or.inl rfl)) pgs_nil)))
       (pss_cons (ps_expr (pe_bm PySem.F.plainAttrs_list PySem.F.slot_list_append PySem.F.type_list_append mt_append (pv 1) (pa_cons (pe_lst (pa_cons pe_str (pa_cons (pv 2) pa_nil))) pa_nil)))
       (pss_one (ps_for PassesOwn.never rfl (pi_tup (pv 3)) (pg_tup rfl (pgs_cons (pg_name (i := 4) sc_l_rows.nd rfl (Or.inl rfl)) (pgs_cons (pg_name (i := 5) sc_l_rows.nd rfl (Or.inl rfl)) (pgs_cons (pg_name (i := 6) sc_l_rows.nd rfl (Or.inl rfl)) pgs_nil))))
        (pss_cons (ps_expr (pe_bm PySem.F.plainAttrs_list PySem.F.slot_list_append PySem.F.type_list_append mt_append (pv 1) (pa_cons (pe_lst (pa_cons pe_str (pa_cons (pv 4) (pa_cons (pe_callTy call_str_int (by rfl) T.f_str boot_str' (pa_cons (pv 5) pa_nil)) pa_nil)))) pa_nil)))
        (pss_one (ps_for PassesOwn.never rfl (pi_tup (pv 6)) (pg_tup rfl (pgs_cons (pg_name (i := 7) sc_l_rows.nd rfl (Or.inl rfl)) (pgs_cons (pg_name (i := 8) sc_l_rows.nd rfl (Or.inl rfl)) (pgs_cons (pg_name (i := 9) sc_l_rows.nd rfl (Or.inl rfl)) pgs_nil))))
         (pss_one (ps_expr (pe_bm PySem.F.plainAttrs_list PySem.F.slot_list_append PySem.F.type_list_append mt_append (pv 1) (pa_cons (pe_lst (pa_cons pe_str (pa_cons (pv 7) (pa_cons (pe_callTy call_str_int (by rfl) T.f_str boot_str' (pa_cons (pv 8) pa_nil)) (pa_cons (pe_callTy call_str_int (by rfl) T.f_str boot_str' (pa_cons (pv 9) pa_nil)) pa_nil))))) pa_nil)))))))))))
      (pss_one (ps_ret (pv 1))))), ?_⟩
    refine ⟨Nat.zero_le _, fun D nD => ?_⟩
    have sD : Same H (upd H D (.lst [])) := Same.new nD
    refine ⟨_, rfl, p, rfl, ⟨_, SqT.of (sD _ _ hp)⟩, for_tup (K := K) (a := p) (xs := pvs) (fun i σ H' => ∃ o2 o3 o4 o5 o6 o7 o8 o9 : Option V, σ = [some (.ref p), some (.ref D), o2, o3, o4, o5, o6, o7, o8, o9] ∧ RwAt H H' D i (57 * i)) ⟨none, none, none, none, none, none, none, none, rfl, sD, [], upd_same, fun x hx => by simp at hx, Nat.le_refl _, Nat.le_refl _⟩
      (fun i σ H' _ ⟨_, _, _, _, _, _, _, _, _, t⟩ => SqT.of (t.s _ _ hp)) ?_ ?_⟩
    · rintro i x σ H1 hx ⟨o2, o3, o4, o5, o6, o7, o8, o9, rfl, s1, its, hD1, hits, n1, n2⟩
      obtain ⟨c, hc, a, hv, us, rfl, ha, hhv, hus⟩ := hall.get hx
      obtain ⟨w1, w2, w3⟩ := wk c (List.mem_of_getElem? hc)
      have hi3 : i < 3 := by
        have := (List.getElem?_eq_some_iff.mp hc).1
        omega
      refine ⟨a, _, rfl, SqT.of (s1 _ _ ha), rfl, _, _, rfl, _, _, rfl, rfl, ?_⟩
      refine ⟨_, rfl, .inl ⟨rfl, _, SqL.of hD1⟩, _, rfl, (by show 2 ≤ sizeLine; decide), fun b nb => ?_⟩
      have sb : Same H1 (upd H1 b (.lst [.str "parish", .str c.1])) := Same.new nb
      refine ⟨D, _, _, rfl, rfl, sb _ _ hD1, sz2 (by rw [List.length_map]; omega), ?_⟩
      have R2 := RwAt.add (ws := ["parish", c.1]) nD hD1 hits n1 n2 s1 sb upd_same (ne_of_none hD1 nb).symm (by show 1 ≤ 2; decide) (by show 2 ≤ 4; decide) (fun z hz => by
        simp at hz
        rcases hz with rfl | rfl
        · decide +kernel
        · exact w1)
      refine ⟨_, rfl, hv, rfl, ⟨_, SqT.of (R2.s _ _ hhv)⟩, for_tup (K := K) (a := hv) (xs := us) (fun j σ H' => ∃ o4 o5 o6 o7 o8 o9 : Option V, σ = [some (.ref p), some (.ref D), some (.str c.1), some (.ref hv), o4, o5, o6, o7, o8, o9] ∧ RwAt H H' D (i + 1) (57 * i + 1 + 14 * j)) ⟨_, _, _, _, _, _, rfl, R2⟩
        (fun i σ H' _ ⟨_, _, _, _, _, _, _, t⟩ => SqT.of (t.s _ _ hhv)) ?_ ?_⟩
      · rintro j x σ H3 hx ⟨o4, o5, o6, o7, o8, o9, rfl, s3, its3, hD3, hits3, n3, n4⟩
        obtain ⟨h, hh, a3, gv, gs, rfl, ha3, hgv, hgs⟩ := hus.get hx
        obtain ⟨v1, v2, v3, v4, v5⟩ := w3 h (List.mem_of_getElem? hh)
        have hj4 : j < 4 := by
          have := (List.getElem?_eq_some_iff.mp hh).1
          omega
        refine ⟨a3, _, rfl, SqT.of (s3 _ _ ha3), rfl, _, _, rfl, _, _, rfl, _, _, rfl, rfl, ?_⟩
        refine ⟨_, rfl, .inl ⟨rfl, _, SqL.of hD3⟩, _, rfl, _, rfl, _, rfl, (int_shown v2 v3).2, (by show 3 ≤ sizeLine; decide), fun b nb => ?_⟩
        have sb : Same H3 (upd H3 b (.lst [.str "house", .str h.1, .str (toString h.2.1 : String)])) := Same.new nb
        refine ⟨D, _, _, rfl, rfl, sb _ _ hD3, sz2 (by rw [List.length_map]; omega), ?_⟩
        have R4 := RwAt.add (ws := ["house", h.1, (toString h.2.1 : String)]) nD hD3 hits3 n3 n4 s3 sb upd_same (ne_of_none hD3 nb).symm (by show 1 ≤ 3; decide) (by show 3 ≤ 4; decide) (few3 (by decide +kernel) v1 (i30 v2 v3))
        refine ⟨_, rfl, gv, rfl, ⟨_, SqT.of (R4.s _ _ hgv)⟩, for_tup (K := K) (a := gv) (xs := gs) (fun l σ H' => ∃ o7 o8 o9 : Option V, σ = [some (.ref p), some (.ref D), some (.str c.1), some (.ref hv), some (.str h.1), some (.int h.2.1), some (.ref gv), o7, o8, o9] ∧ RwAt H H' D (i + 1) (57 * i + 1 + 14 * j + 1 + l)) ⟨_, _, _, rfl, R4.le (by omega) (by omega)⟩
          (fun i σ H' _ ⟨_, _, _, _, t⟩ => SqT.of (t.s _ _ hgv)) ?_ ?_⟩
        · rintro l x σ H5 hx ⟨o7, o8, o9, rfl, s5, its5, hD5, hits5, n5, n6⟩
          obtain ⟨g, hg, a5, rfl, ha5⟩ := hgs.get hx
          obtain ⟨u1, u2, u3, u4, u5⟩ := v5 g (List.mem_of_getElem? hg)
          have hl : l < 13 := by
            have := (List.getElem?_eq_some_iff.mp hg).1
            omega
          refine ⟨a5, _, rfl, SqT.of (s5 _ _ ha5), rfl, _, _, rfl, _, _, rfl, _, _, rfl, rfl, ?_⟩
          refine ⟨_, rfl, .inl ⟨rfl, _, SqL.of hD5⟩, _, rfl, _, rfl, _, rfl, (int_shown u2 (by omega)).2, _, rfl, _, rfl, (int_shown u4 (by omega)).2, (by show 4 ≤ sizeLine; decide), fun b nb => ?_⟩
          have sb : Same H5 (upd H5 b (.lst [.str "held", .str g.1, .str (toString g.2.1 : String), .str (toString g.2.2 : String)])) := Same.new nb
          refine ⟨D, _, _, rfl, rfl, sb _ _ hD5, sz2 (by rw [List.length_map]; omega), ?_⟩
          have R6 := RwAt.add (ws := ["held", g.1, (toString g.2.1 : String), (toString g.2.2 : String)]) nD hD5 hits5 n5 n6 s5 sb upd_same (ne_of_none hD5 nb).symm (by show 1 ≤ 4; decide) (by show 4 ≤ 4; decide) (fun z hz => by
            simp at hz
            rcases hz with rfl | rfl | rfl | rfl
            · decide +kernel
            · exact u1
            · exact i30 u2 (by omega)
            · exact i30 u4 (by omega))
          exact ⟨_, _, _, rfl, R6.le (by omega) (by omega)⟩
        · rintro σ H5 ⟨o7, o8, o9, rfl, R5⟩
          exact ⟨_, _, _, _, _, _, rfl, R5.le (by omega) (by have := hgs.length; omega)⟩
      · rintro σ H3 ⟨o4, o5, o6, o7, o8, o9, rfl, R3⟩
        exact ⟨_, _, _, _, _, _, _, _, rfl, R3.le (by omega) (by have := hus.length; omega)⟩
    · rintro σ H1 ⟨o2, o3, o4, o5, o6, o7, o8, o9, rfl, s1, its, hD1, hits, n1, n2⟩
      have := hall.length
      exact ⟨_, rfl, q D H1 nD s1 ⟨its, hD1, fun x hx => (hits x hx).1, by omega, by omega⟩⟩
def rJoinK (K : PySem.W.Frag) : V → List V → Hp → VK → Prop := fun x xs H Q => ∃ a p, ∃ ys : List Str, x = .str a ∧ xs = [.ref p] ∧ (SqL K H p (ys.map V.str) ∨ SqT K H p (ys.map V.str)) ∧ (ys.map (·.length)).sum + ys.length * a.length ≤ 16777216 ∧ Q (.str (Txt.join a ys)) H
theorem pe_joinK {X : Cx} {K : PySem.W.Frag} {o e : Expr} {to te : TE} {apos pos : Pos} (h : X.K = K) (ho : PE X o to) (he : PE X e te) (hs : starEach [e] X.env = [(false, eval e X.env)] := by rfl) (hbase : attributeBase o "join" X.env (eval o X.env) = eval o X.env := by rfl) (hline : (apos.endLine == pos.line) = true := by rfl) :
    PE X (.Call (.Attribute o "join" apos) [e] [] pos) (tM1 (rJoinK K) to te) := by
  subst h
  exact pe_join ho he hs hbase hline
theorem sum_le {ys : List Str} {B : Nat} (h : ∀ y ∈ ys, y.length ≤ B) : (ys.map (·.length)).sum ≤ ys.length * B := by
  induction ys with
  | nil => simp
  | cons y ys ih =>
    have := ih fun z hz => h z (List.mem_cons_of_mem _ hz)
    have := h y List.mem_cons_self
    rw [List.map_cons, List.sum_cons, List.length_cons, Nat.succ_mul]
    omega
theorem join_le {sep : Str} {ys : List Str} {B : Nat} (h : ∀ y ∈ ys, y.length ≤ B) : (Txt.join sep ys).length ≤ ys.length * B + ys.length * sep.length := by
  rw [TL.join_eq]
  have := StrLaws.join_length_le sep ys
  have := sum_le h
  omega
def spText : Sp := fun vs H Q _ => ∃ (p : Addr), vs = [.ref p] ∧ RowsAt H p 20 200 ∧ ∀ z H', Same H H' → z.length ≤ 200000 → Q (.str z) H'
theorem texts_of {B : Nat} : ∀ {acc : List V} {as : List (Addr × List Str)}, All2 (fun v _ => ∃ z : Str, v = V.str z ∧ z.length ≤ B) acc as → ∃ ys : List Str, acc = ys.map V.str ∧ ys.length = as.length ∧ ∀ y ∈ ys, y.length ≤ B
  | [], [], _ => ⟨[], rfl, rfl, fun y hy => by simp at hy⟩
  | v :: acc, b :: bs, h => by
    obtain ⟨z, e, hz⟩ := h.1
    obtain ⟨ls, e2, e3, e4⟩ := texts_of h.2
    refine ⟨z :: ls, by rw [e, e2]; rfl, congrArg Nat.succ e3, fun y hy => ?_⟩
    rcases List.mem_cons.mp hy with hy | hy
    · rw [hy]
      exact hz
    · exact e4 y hy
  | [], _ :: _, x => x.elim
  | _ :: _, [], x => x.elim
theorem all2_map {α : Type} {f : α → V} {C : α → Prop} : ∀ {as : List α}, (∀ a ∈ as, C a) → All2 (fun v a => v = f a ∧ C a) (as.map f) as
  | [], _ => True.intro
  | a :: as, h => ⟨⟨rfl, h a List.mem_cons_self⟩, all2_map fun b hb => h b (List.mem_cons_of_mem _ hb)⟩
theorem ok_l_text (T : Txt K mg) : FnOk P w K mg base L2.CX0 1 (a_l_text K) (fdOf K (a_l_text K)) P_l_text spText := by
  refine T.F_l_text.ok sc_l_text (fun vs H Q E h => ?_) (fun cdv A outer s H vs Q E hr h => ?_)
  · obtain ⟨p, rfl, _⟩ := h
    rfl
  · obtain ⟨p, rfl, ⟨its, hp, hits, n1, n2⟩, q⟩ := h
    refine ⟨_, PSs.nox (pss_one (ps_ret (pe_join pe_str (pe_lc (own := [("_law_words", 1)]) (g := gName 1) (tt := tYes) rfl sc_l_text.nd (pi_list (pv 0)) (blkOk_by (N := N_l_text) (sc := defScope s_l_text) (by decide +kernel)) (fun _ _ _ _ _ => pg_name (i := 1) sc_l_text.nd rfl (Or.inl rfl)) (fun _ _ _ _ _ => pts_nil) (fun _ _ _ _ _ => (pe_joinK (K := K) rfl pe_str (pv 1))))))), ?_⟩
    refine ⟨⟨_, rfl⟩, _, rfl, p, rfl, ⟨_, SqL.of hp⟩, fun D nD => lc_T (fun v x => v = vRow x ∧ RowW H 20 x) (fun _ v _ => ∃ z : Str, v = V.str z ∧ z.length ≤ 620) (fun _ _ _ _ _ h => h) nD (SqL.of hp) (all2_map hits) ?_ ?_ ?_⟩
    · exact Nat.le_of_lt (sz2 (by omega))
    · rintro x r Hc N ⟨rfl, r1, r2, r3, r4⟩ _ kc hN
      refine ⟨rfl, ⟨_, rfl⟩, _, rfl, _, r.1, r.2, rfl, rfl, .inl (SqL.of (kc _ _ r1)), ?_, ?_⟩
      · have := sum_le r4
        have e1 : (" " : Str).length = 1 := by decide +kernel
        rw [e1]
        omega
      · refine hN _ _ (Same.refl _) ⟨_, rfl, ?_⟩
        have := join_le (sep := " ") r4
        have e1 : (" " : Str).length = 1 := by decide +kernel
        rw [e1] at this
        omega
    · intro H' acc s1 hD hacc
      obtain ⟨ys, rfl, ly, hy⟩ := texts_of hacc
      have e1 : ("\n" : Str).length = 1 := by decide +kernel
      refine ⟨_, D, ys, rfl, rfl, .inl (SqL.of hD), ?_, q _ _ s1 ?_⟩
      · have := sum_le hy
        rw [e1]
        omega
      · have := join_le (sep := "\n") hy
        rw [e1] at this
        omega
end
end Pr
end

section
set_option Elab.async false
set_option linter.all false
set_option maxRecDepth 100000
set_option maxHeartbeats 4000000
/-! Bent words, bent rows. -/
namespace Pr
open PySem L2
section
variable {P : Program} {w : World} {K : PySem.W.Frag} {mg : Str → Option Value} {base : Heap}
/-- a slice of any list -/
def cutA {α : Type} (xs : List α) (lo hi : Option Int) : List α := (xs.drop (HT.sIx xs.length 0 lo)).take (HT.sIx xs.length xs.length hi - HT.sIx xs.length 0 lo)
theorem cutV_map {α : Type} (f : α → V) (xs : List α) (lo hi : Option Int) : cutV (xs.map f) lo hi = (cutA xs lo hi).map f := by
  unfold cutV cutA
  rw [List.length_map, List.map_take, List.map_drop]
theorem cutA_mem {α : Type} {xs : List α} {lo hi : Option Int} {x : α} (h : x ∈ cutA xs lo hi) : x ∈ xs := List.mem_of_mem_drop (List.mem_of_mem_take h)
theorem sIx_pos {n d : Nat} {v : Int} (h : 0 ≤ v) : HT.sIx n d (some v) = min v.toNat n := by
  show (if v < 0 then (v + (n : Int)).toNat else min v.toNat n) = _
  rw [if_neg (by omega)]
theorem cutA_to {α : Type} (xs : List α) {v : Int} (h : 0 ≤ v) : (cutA xs none (some v)).length = min v.toNat xs.length := by
  unfold cutA
  rw [sIx_pos h, List.length_take, List.length_drop]
  show min (min v.toNat xs.length - 0) (xs.length - 0) = _
  omega
theorem cutA_from {α : Type} (xs : List α) {v : Int} (h : 0 ≤ v) : (cutA xs (some v) none).length = xs.length - v.toNat := by
  unfold cutA
  rw [sIx_pos h, List.length_take, List.length_drop]
  show min (xs.length - min v.toNat xs.length) (xs.length - min v.toNat xs.length) = _
  omega
theorem cutA_mid {α : Type} (xs : List α) {v u : Int} (h : 0 ≤ v) (h2 : 0 ≤ u) : (cutA xs (some v) (some u)).length = min (min u.toNat xs.length - min v.toNat xs.length) (xs.length - min v.toNat xs.length) := by
  unfold cutA
  rw [sIx_pos h, sIx_pos h2, List.length_take, List.length_drop]
theorem MAt.strs {H : Hp} {m Lf C k a : _} {ws : List Str} (M : MAt H m Lf C k) (h : H a = some (.lst (ws.map V.str))) (hn : 1 ≤ ws.length) : a ∉ [m, Lf] := by
  obtain ⟨h1, _, ⟨ls, h2⟩, _⟩ := M
  have n1 : a ≠ m := ne_of h h1 (by intro z; cases z)
  have n2 : a ≠ Lf := fun z => by
    rw [z, h2] at h
    have e := HO.lst.inj (Option.some.inj h)
    cases ws with
    | nil => simp at hn
    | cons w ws =>
      cases ls with
      | nil => cases e
      | cons l ls => cases (List.cons.inj e).1
  simp [n1, n2]
theorem MAt.rows {H : Hp} {m Lf C k a : _} {its : List (Addr × List Str)} (M : MAt H m Lf C k) (h : H a = some (.lst (its.map vRow))) (hn : 1 ≤ its.length) : a ∉ [m, Lf] := by
  obtain ⟨h1, _, ⟨ls, h2⟩, _⟩ := M
  have n1 : a ≠ m := ne_of h h1 (by intro z; cases z)
  have n2 : a ≠ Lf := fun z => by
    rw [z, h2] at h
    have e := HO.lst.inj (Option.some.inj h)
    cases its with
    | nil => simp at hn
    | cons w ws =>
      cases ls with
      | nil => cases e
      | cons l ls => cases (List.cons.inj e).1
  simp [n1, n2]
theorem RowW.x {H H' : Hp} {m Lf C k n : _} {x : Addr × List Str} (h : RowW H n x) (M : MAt H m Lf C k) (s : SameXs [m, Lf] H H') : RowW H' n x := ⟨s _ _ (M.strs h.1 h.2.1) h.1, h.2⟩
theorem Few.app {n : Nat} {a b : List Str} (h1 : Few n a) (h2 : Few n b) : Few n (a ++ b) := fun z hz => by
  rcases List.mem_append.mp hz with h | h
  · exact h1 z h
  · exact h2 z h
theorem Few.cut {n : Nat} {a : List Str} {lo hi : Option Int} (h : Few n a) : Few n (cutA a lo hi) := fun z hz => h z (cutA_mem hz)
theorem Few.one {n : Nat} {z : Str} (h : z.length ≤ n) : Few n [z] := fun y hy => by
  rw [List.mem_singleton] at hy
  rw [hy]
  exact h
def rLenK (K : PySem.W.Frag) : List V → Hp → VK → Prop := fun xs H Q => ∃ p ys, xs = [.ref p] ∧ (SqL K H p ys ∨ SqT K H p ys) ∧ Q (.int (ys.length : Nat)) H
theorem call_lenK {X : Cx} {K : PySem.W.Frag} (h : X.K = K) : CallR X (.builtin "len") (rLenK K) := by
  subst h
  exact call_len_seq
theorem ss3 {a b : Nat} (h1 : a ≤ 10000) (h2 : b ≤ 10000) : a + b ≤ sizeLine := by
  rw [sizeLine_eq]
  omega
theorem cl {xs : List V} {lo hi : Option Int} {n : Nat} (h : xs.length ≤ n) : (cutV xs lo hi).length ≤ n := Nat.le_trans (cutV_length xs lo hi) h
theorem la {a b : List V} {n m : Nat} (h1 : a.length ≤ n) (h2 : b.length ≤ m) : (a ++ b).length ≤ n + m := by
  rw [List.length_append]
  omega
def spBentW : Sp := fun vs H Q _ => ∃ (m Lf C wl sl : Addr) (k : Nat) (ws ss : List Str), vs = [.ref m, .ref wl, .ref sl] ∧ MAt H m Lf C k ∧ H wl = some (.lst (ws.map V.str)) ∧ 1 ≤ ws.length ∧ ws.length ≤ 19 ∧ Few 30 ws ∧ H sl = some (.lst (ss.map V.str)) ∧ 1 ≤ ss.length ∧ ss.length ≤ 1000 ∧ Few 30 ss ∧ k + 1000 < 2 ^ 40 ∧
  ∀ p H' ws' k', SameXs [m, Lf] H H' → H' p = some (.lst (ws'.map V.str)) → 1 ≤ ws'.length → ws'.length ≤ ws.length + 1 → Few 30 ws' → MAt H' m Lf C k' → k' ≤ k + 4 → Q (.ref p) H'
theorem ok_l_bent_words (T : Txt K mg) : FnOk P w K mg base L2.CX0 3 (a_l_bent_words K) (fdOf K (a_l_bent_words K)) P_l_bent_words spBentW := by
  refine T.F_l_bent_words.ok sc_l_bent_words (fun vs H Q E h => ?_) (fun cdv A outer s H vs Q E hr h => ?_)
  · obtain ⟨m, Lf, C, wl, sl, k, ws, ss, rfl, _⟩ := h
    rfl
  · obtain ⟨m, Lf, C, wl, sl, k, ws, ss, rfl, M, hw, w1, w2, fw, hs, s1, s2, fs, hk, q⟩ := h
    refine ⟨_, pss_cons (ps_par3 (i := 3) (j := 4) (l := 5) (by rfl) sc_l_bent_words.nd rfl rfl rfl (by decide) (by decide) (by decide) rfl rfl rfl (pa_cons (pe_call (ok_l_draw T) hr (by rfl) T.g__law_draw (T.F_l_draw).kp T.b_l_draw .nil (E := E0) pass0 (pa_cons (pv 0) (pa_cons (pe_callB call_len_seq (by rfl) T.f_len PySem.boot_len (pa_cons (pv 1) pa_nil)) pa_nil))) (pa_cons (pe_call (ok_l_draw T) hr (by rfl) T.g__law_draw (T.F_l_draw).kp T.b_l_draw .nil (E := E0) pass0 (pa_cons (pv 0) (pa_cons (pe_callB call_len_seq (by rfl) T.f_len PySem.boot_len (pa_cons (pv 1) pa_nil)) pa_nil))) (pa_cons (pe_call (ok_l_draw T) hr (by rfl) T.g__law_draw (T.F_l_draw).kp T.b_l_draw .nil (E := E0) pass0 (pa_cons (pv 0) (pa_cons pe_int pa_nil))) pa_nil))) (by rfl))
      (pss_cons (ps_if (pt_cmpR op_eq (pv 5) pe_int (nomark _)) (pss_one (ps_ret (pe_ifExp (pt_cmpR op_gt (pe_callB call_len_seq (by rfl) T.f_len PySem.boot_len (pa_cons (pv 1) pa_nil)) pe_int (nomark _)) (pe_op op_cat (pe_slice sl_list (pv 1) po_none (po_some (pv 3))) (pe_slice sl_list (pv 1) (po_some (pe_op op_add (pv 3) pe_int)) po_none)) (pe_lst (pa_cons pe_str pa_nil))))) pss_nil)
      (pss_cons (ps_if (pt_cmpR op_eq (pv 5) pe_int (nomark _)) (pss_one (ps_ret (pe_op op_cat (pe_op op_cat (pe_slice sl_list (pv 1) po_none (po_some (pv 3))) (pe_lst (pa_cons (pe_ix ix_list (pv 1) (pv 4) (fun _ _ => rfl)) pa_nil))) (pe_slice sl_list (pv 1) (po_some (pv 3)) po_none)))) pss_nil)
      (pss_cons (ps_if (pt_cmpR op_eq (pv 5) pe_int (nomark _)) (pss_one (ps_ret (pe_op op_cat (pe_op op_cat (pe_slice sl_list (pv 1) po_none (po_some (pv 3))) (pe_revL (pe_slice sl_list (pv 1) (po_some (pv 3)) (po_some (pe_op op_add (pv 3) pe_int))))) (pe_slice sl_list (pv 1) (po_some (pe_op op_add (pv 3) pe_int)) po_none)))) pss_nil)
      (pss_one (ps_ret (pe_op op_cat (pe_op op_cat (pe_slice sl_list (pv 1) po_none (po_some (pv 3))) (pe_lst (pa_cons (pe_ix ix_list (pv 2) (pe_call (ok_l_draw T) hr (by rfl) T.g__law_draw (T.F_l_draw).kp T.b_l_draw .nil (E := E0) pass0 (pa_cons (pv 0) (pa_cons (pe_callB call_len_seq (by rfl) T.f_len PySem.boot_len (pa_cons (pv 2) pa_nil)) pa_nil))) (fun _ _ => rfl)) pa_nil))) (pe_slice sl_list (pv 1) (po_some (pe_op op_add (pv 3) (pe_callTy call_int1 (by rfl) T.f_int boot_int' (pa_cons (pe_cmpR op_lt (pv 5) pe_int (nomark _)) pa_nil)))) po_none))))))), ?_⟩
    have lenp : ((ws.map V.str).length : Int) = (ws.length : Int) := by rw [List.length_map]
    refine ⟨_, rfl, _, rfl, wl, _, rfl, .inl (SqL.of hw), m, Lf, C, k, _, rfl, M, by rw [List.length_map]; omega, by rw [List.length_map]; omega, by omega, fun at_ H1 a0 a1 x1 M1 => ?_⟩
    have hw1 := x1 _ _ (M.strs hw w1) hw
    refine ⟨_, rfl, _, rfl, wl, _, rfl, .inl (SqL.of hw1), m, Lf, C, k + 1, _, rfl, M1, by rw [List.length_map]; omega, by rw [List.length_map]; omega, by omega, fun other H2 b0 b1 x2 M2 => ?_⟩
    have hw2 := x2 _ _ (M1.strs hw1 w1) hw1
    refine ⟨_, rfl, m, Lf, C, k + 1 + 1, 6, rfl, M2, by decide, by decide, by omega, fun way H3 c0 c1 x3 M3 => ⟨_, _, _, rfl, ?_⟩⟩
    have hw3 := x3 _ _ (M2.strs hw2 w1) hw2
    have x03 : SameXs [m, Lf] H H3 := (x1.trans x2).trans x3
    have hs3 := x03 _ _ (M.strs hs s1) hs
    rw [lenp] at a1 b1
    have fin : ∀ (p : Addr) (H4 : Hp) (ws' : List Str), Same H3 H4 → H4 p = some (.lst (ws'.map V.str)) → 1 ≤ ws'.length → ws'.length ≤ ws.length + 1 → Few 30 ws' → Q (.ref p) H4 := fun p H4 ws' s4 h4 l1 l2 f => q p H4 ws' _ (x03.trans (Same.toXs s4)) h4 l1 l2 f (M3.same s4) (by omega)
    have lw : (ws.map V.str).length ≤ 1000 := by rw [List.length_map]; omega
    refine ⟨_, rfl, rfl, _, rfl, iteD (fun c => ?_) (fun c => ?_)⟩
    · refine ⟨_, rfl, wl, _, rfl, .inl (SqL.of hw3), _, _, rfl, rfl, _, rfl, iteD (fun c2 => ?_) (fun c2 => ?_)⟩
      · refine ⟨_, rfl, _, rfl, _, rfl, wl, _, rfl, SqL.of hw3, fun p1 n1 => ?_⟩
        have y1 := Same.new (o := .lst (cutV (ws.map V.str) none (some at_))) n1
        refine ⟨_, rfl, _, rfl, _, _, rfl, rfl, _, rfl, wl, _, rfl, SqL.of (y1 _ _ hw3), fun p2 n2 => ?_⟩
        have y2 := Same.new (o := .lst (cutV (ws.map V.str) (some (at_ + 1)) none)) n2
        refine ⟨p1, p2, _, _, rfl, rfl, y2 _ _ upd_same, upd_same, ss3 (Nat.le_trans (cl lw) (by decide)) (Nat.le_trans (cl lw) (by decide)), fun p3 n3 => ?_⟩
        rw [List.length_map] at c2
        refine fin p3 _ (cutA ws none (some at_) ++ cutA ws (some (at_ + 1)) none) ((y1.trans y2).trans (Same.new n3)) (by rw [upd_same, cutV_map, cutV_map, ← List.map_append]) ?_ ?_ (fw.cut.app fw.cut)
        · rw [List.length_append, cutA_to _ a0, cutA_from _ (by omega)]
          omega
        · rw [List.length_append, cutA_to _ a0, cutA_from _ (by omega)]
          omega
      · exact ⟨(by show 1 ≤ sizeLine; decide), fun p1 n1 => fin p1 _ ["end"] (Same.new n1) upd_same (by decide) (by show 1 ≤ ws.length + 1; omega) (Few.one (by decide +kernel))⟩
    · refine ⟨_, rfl, rfl, _, rfl, iteD (fun c => ?_) (fun c => ?_)⟩
      · obtain ⟨z, hz, hat⟩ := pickS (n := ws.length) rfl b0 b1
        refine ⟨_, rfl, _, rfl, _, rfl, wl, _, rfl, SqL.of hw3, fun p1 n1 => ?_⟩
        have y1 := Same.new (o := .lst (cutV (ws.map V.str) none (some at_))) n1
        refine ⟨_, rfl, _, rfl, wl, _, _, _, rfl, rfl, SqL.of (y1 _ _ hw3), hat, (by show 1 ≤ sizeLine; decide), fun p2 n2 => ?_⟩
        have y2 := Same.new (o := .lst [V.str z]) n2
        refine ⟨p1, p2, _, _, rfl, rfl, y2 _ _ upd_same, upd_same, ss3 (Nat.le_trans (cl lw) (by decide)) (by show 1 ≤ 10000; decide), fun p3 n3 => ?_⟩
        have y3 := Same.new (o := .lst (cutV (ws.map V.str) none (some at_) ++ [V.str z])) n3
        have y13 := (y1.trans y2).trans y3
        refine ⟨_, rfl, _, rfl, _, rfl, wl, _, rfl, SqL.of (y13 _ _ hw3), fun p4 n4 => ?_⟩
        have y4 := Same.new (o := .lst (cutV (ws.map V.str) (some at_) none)) n4
        refine ⟨p3, p4, _, _, rfl, rfl, y4 _ _ upd_same, upd_same, ss3 (Nat.le_trans (la (cl lw) (Nat.le_refl _)) (by show 1000 + 1 ≤ 10000; decide)) (Nat.le_trans (cl lw) (by decide)), fun p5 n5 => ?_⟩
        refine fin p5 _ (cutA ws none (some at_) ++ [z] ++ cutA ws (some at_) none) ((y13.trans y4).trans (Same.new n5)) (by rw [upd_same, cutV_map, cutV_map, List.map_append, List.map_append]; rfl) ?_ ?_ ((fw.cut.app (Few.one (fw z hz))).app fw.cut)
        · rw [List.length_append, List.length_append, cutA_to _ a0, cutA_from _ a0]
          show 1 ≤ _ + 1 + _
          omega
        · rw [List.length_append, List.length_append, cutA_to _ a0, cutA_from _ a0]
          show _ + 1 + _ ≤ _
          omega
      · refine ⟨_, rfl, rfl, _, rfl, iteD (fun c => ?_) (fun c => ?_)⟩
        · refine ⟨_, rfl, _, rfl, _, rfl, wl, _, rfl, SqL.of hw3, fun p1 n1 => ?_⟩
          have y1 := Same.new (o := .lst (cutV (ws.map V.str) none (some at_))) n1
          refine ⟨_, rfl, _, rfl, _, rfl, _, rfl, _, _, rfl, rfl, _, rfl, wl, _, rfl, SqL.of (y1 _ _ hw3), fun p2 n2 => ?_⟩
          have y2 := Same.new (o := .lst (cutV (ws.map V.str) (some at_) (some (at_ + 2)))) n2
          refine ⟨p2, _, rfl, SqL.of upd_same, fun p3 n3 => ?_⟩
          have y3 := Same.new (o := .lst (cutV (ws.map V.str) (some at_) (some (at_ + 2))).reverse) n3
          refine ⟨p1, p3, _, _, rfl, rfl, y3 _ _ (y2 _ _ upd_same), upd_same, ss3 (Nat.le_trans (cl lw) (by decide)) (by rw [List.length_reverse]; exact Nat.le_trans (cl lw) (by decide)), fun p4 n4 => ?_⟩
          have y4 := Same.new (o := .lst (cutV (ws.map V.str) none (some at_) ++ (cutV (ws.map V.str) (some at_) (some (at_ + 2))).reverse)) n4
          have y14 := ((y1.trans y2).trans y3).trans y4
          refine ⟨_, rfl, _, rfl, _, _, rfl, rfl, _, rfl, wl, _, rfl, SqL.of (y14 _ _ hw3), fun p5 n5 => ?_⟩
          have y5 := Same.new (o := .lst (cutV (ws.map V.str) (some (at_ + 2)) none)) n5
          refine ⟨p4, p5, _, _, rfl, rfl, y5 _ _ upd_same, upd_same, ss3 (Nat.le_trans (la (cl lw) (by rw [List.length_reverse]; exact cl lw)) (by show 1000 + 1000 ≤ 10000; decide)) (Nat.le_trans (cl lw) (by decide)), fun p6 n6 => ?_⟩
          refine fin p6 _ (cutA ws none (some at_) ++ (cutA ws (some at_) (some (at_ + 2))).reverse ++ cutA ws (some (at_ + 2)) none) ((y14.trans y5).trans (Same.new n6)) (by rw [upd_same, cutV_map, cutV_map, cutV_map, List.map_append, List.map_append, List.map_reverse]) ?_ ?_
            ((fw.cut.app (fun z hz => fw z (cutA_mem (List.mem_reverse.mp hz)))).app fw.cut)
          · rw [List.length_append, List.length_append, List.length_reverse, cutA_to _ a0, cutA_from _ (by omega), cutA_mid _ a0 (by omega)]
            omega
          · rw [List.length_append, List.length_append, List.length_reverse, cutA_to _ a0, cutA_from _ (by omega), cutA_mid _ a0 (by omega)]
            omega
        · refine ⟨_, rfl, _, rfl, _, rfl, wl, _, rfl, SqL.of hw3, fun p1 n1 => ?_⟩
          have y1 := Same.new (o := .lst (cutV (ws.map V.str) none (some at_))) n1
          refine ⟨_, rfl, _, rfl, _, rfl, sl, _, rfl, .inl (SqL.of (y1 _ _ hs3)), m, Lf, C, k + 1 + 1 + 1, _, rfl, M3.same y1, by rw [List.length_map]; omega, by rw [List.length_map]; omega, by omega, fun r4 H4 d0 d1 x4 M4 => ?_⟩
          rw [List.length_map] at d1
          obtain ⟨z, hz, hat⟩ := pickS (n := ss.length) rfl d0 d1
          have M3' := M3.same y1
          have hs4 := x4 _ _ (M3'.strs (y1 _ _ hs3) s1) (y1 _ _ hs3)
          have hw4 := x4 _ _ (M3'.strs (y1 _ _ hw3) w1) (y1 _ _ hw3)
          have hp4 := x4 _ _ (M3.new n1) upd_same
          refine ⟨sl, _, _, _, rfl, rfl, SqL.of hs4, hat, (by show 1 ≤ sizeLine; decide), fun p2 n2 => ?_⟩
          have y2 := Same.new (o := .lst [V.str z]) n2
          refine ⟨p1, p2, _, _, rfl, rfl, y2 _ _ hp4, upd_same, ss3 (Nat.le_trans (cl lw) (by decide)) (by show 1 ≤ 10000; decide), fun p3 n3 => ?_⟩
          have y3 := Same.new (o := .lst (cutV (ws.map V.str) none (some at_) ++ [V.str z])) n3
          have y23 := y2.trans y3
          obtain ⟨j, hj⟩ : ∃ j : Int, j = (if decide (way < 5) = true then 1 else 0) := ⟨_, rfl⟩
          have hj1 : 0 ≤ j ∧ j ≤ 1 := by
            rw [hj]
            split <;> omega
          refine ⟨_, rfl, _, rfl, _, rfl, _, _, rfl, rfl, .inr ⟨_, rfl, _, _, rfl, rfl, _, rfl, ?_⟩⟩
          rw [← hj]
          refine ⟨wl, _, rfl, SqL.of (y23 _ _ hw4), fun p4 n4 => ?_⟩
          have y4 := Same.new (o := .lst (cutV (ws.map V.str) (some (at_ + j)) none)) n4
          refine ⟨p3, p4, _, _, rfl, rfl, y4 _ _ upd_same, upd_same, ss3 (Nat.le_trans (la (cl lw) (Nat.le_refl _)) (by show 1000 + 1 ≤ 10000; decide)) (Nat.le_trans (cl lw) (by decide)), fun p5 n5 => ?_⟩
          have y25 := (y23.trans y4).trans (Same.new (o := .lst (cutV (ws.map V.str) none (some at_) ++ [V.str z] ++ cutV (ws.map V.str) (some (at_ + j)) none)) n5)
          refine q p5 _ (cutA ws none (some at_) ++ [z] ++ cutA ws (some (at_ + j)) none) _ (((x03.trans (Same.toXs y1)).trans x4).trans (Same.toXs y25)) (by rw [upd_same, cutV_map, cutV_map, List.map_append, List.map_append]; rfl) ?_ ?_ ((fw.cut.app (Few.one (fs z hz))).app fw.cut) (M4.same y25) (by omega)
          · rw [List.length_append, List.length_append, cutA_to _ a0, cutA_from _ (by omega)]
            show 1 ≤ _ + 1 + _
            omega
          · rw [List.length_append, List.length_append, cutA_to _ a0, cutA_from _ (by omega)]
            show _ + 1 + _ ≤ _
            omega
end
end Pr
end

section
set_option Elab.async false
set_option linter.all false
set_option maxRecDepth 100000
set_option maxHeartbeats 4000000
/-! Bent rows. -/
namespace Pr
open PySem L2
section
variable {P : Program} {w : World} {K : PySem.W.Frag} {mg : Str → Option Value} {base : Heap}
theorem pickR {xs : List (Addr × List Str)} {r : Int} {n : Nat} (hn : xs.length = n) (h0 : 0 ≤ r) (h1 : r < n) : ∃ z, z ∈ xs ∧ atI (xs.map vRow) r = some (vRow z) := by
  obtain ⟨i, rfl⟩ := Int.eq_ofNat_of_zero_le h0
  have hi : i < xs.length := by omega
  exact ⟨xs[i], List.getElem_mem hi, atI_nat (by rw [List.getElem?_map, List.getElem?_eq_getElem hi]; rfl)⟩
theorem few_wd {n : Nat} {ws : List Str} (h : Few n ws) (i : Nat) : (wd ws i).length ≤ n := by
  unfold wd
  cases e : ws[i]? with
  | none => exact Nat.le_trans (show ("" : Str).length ≤ 0 by decide +kernel) (Nat.zero_le _)
  | some z => exact h z (List.mem_of_getElem? e)
theorem RowW.up {H : Hp} {n : Nat} {x : Addr × List Str} (h : RowW H n x) : RowW H (n + 1) x := ⟨h.1, h.2.1, Nat.le_succ_of_le h.2.2.1, h.2.2.2⟩
def spBentR : Sp := fun vs H Q _ => ∃ (m Lf C p : Addr) (k n r : Nat), vs = [.ref m, .ref p] ∧ MAt H m Lf C k ∧ RowsAt H p n r ∧ 4 ≤ n ∧ n ≤ 19 ∧ r ≤ 199 ∧ k + 2000 < 2 ^ 40 ∧
  ∀ q H' k', SameXs [m, Lf] H H' → RowsAt H' q (n + 1) (r + 1) → MAt H' m Lf C k' → k' ≤ k + 10 → Q (.ref q) H'
theorem ok_l_bent_rows (T : Txt K mg) : FnOk P w K mg base L2.CX0 4 (a_l_bent_rows K) (fdOf K (a_l_bent_rows K)) P_l_bent_rows spBentR := by
  refine T.F_l_bent_rows.ok sc_l_bent_rows (fun vs H Q E h => ?_) (fun cdv A outer s H vs Q E hr h => ?_)
  · obtain ⟨m, Lf, C, p, k, n, r, rfl, _⟩ := h
    rfl
  · obtain ⟨m, Lf, C, p, k, n, r, rfl, M, ⟨its, hp, hits, l1, l2⟩, n4, hn, hr2, hk, q⟩ := h
    refine ⟨_, PSs.nox (pss_cons (ps_set (i := 2) sc_l_bent_rows.nd rfl (Or.inl rfl) (pe_lst (pa_cons pe_str (pa_cons pe_str (pa_cons pe_str (pa_cons pe_str (pa_cons pe_str (pa_cons pe_str (pa_cons pe_str (pa_cons pe_str (pa_cons pe_str (pa_cons pe_str (pa_cons pe_str (pa_cons pe_str (pa_cons pe_str (pa_cons pe_str (pa_cons pe_str pa_nil)))))))))))))))))
      (pss_cons (ps_set (i := 2) sc_l_bent_rows.nd rfl (Or.inl rfl) (pe_op op_cat (pv 2) (pe_slice sl_list (pe_lc (own := [("_law_words", 7)]) (g := gName 7) (tt := tTest (tOp (rI0 fun i j => .bl (decide (j < i))) (tCB (rLenK K) (tCons (tVar 7) tNil)) (tC (.int 1)))) rfl sc_l_bent_rows.nd (pi_list (pv 1)) (blkOk_by (N := N_l_bent_rows) (sc := defScope s_l_bent_rows) (by decide +kernel)) (fun _ _ _ _ _ => pg_name (i := 7) sc_l_bent_rows.nd rfl (Or.inl rfl)) (fun _ _ _ _ _ => pts_one (pt_cmpR op_gt (pe_callB (call_lenK (K := K) rfl) (by rfl) T.f_len PySem.boot_len (pa_cons (pv 7) pa_nil)) pe_int (nomark _))) (fun _ _ _ _ _ => (pe_ix (ix_listK (K := K) rfl) (pv 7) pe_int (fun _ _ => rfl)))) po_none (po_some pe_int))))
      (pss_cons (ps_par3 (i := 3) (j := 4) (l := 5) (by rfl) sc_l_bent_rows.nd rfl rfl rfl (by decide) (by decide) (by decide) rfl rfl rfl (pa_cons (pe_call (ok_l_draw T) (hr.mono (by decide)) (by rfl) T.g__law_draw (T.F_l_draw).kp T.b_l_draw .nil (E := E0) pass0 (pa_cons (pv 0) (pa_cons pe_int pa_nil))) (pa_cons (pe_call (ok_l_draw T) (hr.mono (by decide)) (by rfl) T.g__law_draw (T.F_l_draw).kp T.b_l_draw .nil (E := E0) pass0 (pa_cons (pv 0) (pa_cons (pe_callB call_len_seq (by rfl) T.f_len PySem.boot_len (pa_cons (pv 1) pa_nil)) pa_nil))) (pa_cons (pe_call (ok_l_draw T) (hr.mono (by decide)) (by rfl) T.g__law_draw (T.F_l_draw).kp T.b_l_draw .nil (E := E0) pass0 (pa_cons (pv 0) (pa_cons (pe_callB call_len_seq (by rfl) T.f_len PySem.boot_len (pa_cons (pv 1) pa_nil)) pa_nil))) pa_nil))) (by rfl))
      (pss_cons (ps_if (pt_cmpR op_eq (pv 3) pe_int (nomark _)) (pss_one (ps_ret (pe_ifExp (pt_cmpR op_gt (pe_callB call_len_seq (by rfl) T.f_len PySem.boot_len (pa_cons (pv 1) pa_nil)) pe_int (nomark _)) (pe_op op_cat (pe_slice sl_list (pv 1) po_none (po_some (pv 4))) (pe_slice sl_list (pv 1) (po_some (pe_op op_add (pv 4) pe_int)) po_none)) (pe_lst (pa_cons (pe_lst (pa_cons pe_str (pa_cons pe_str pa_nil))) pa_nil))))) pss_nil)
      (pss_cons (ps_if (pt_cmpR op_eq (pv 3) pe_int (nomark _)) (pss_one (ps_ret (pe_op op_cat (pe_op op_cat (pe_slice sl_list (pv 1) po_none (po_some (pv 4))) (pe_lst (pa_cons (pe_ix ix_list (pv 1) (pv 5) (fun _ _ => rfl)) pa_nil))) (pe_slice sl_list (pv 1) (po_some (pv 4)) po_none)))) pss_nil)
      (pss_cons (ps_if (pt_cmpR op_eq (pv 3) pe_int (nomark _)) (pss_one (ps_ret (pe_op op_cat (pe_op op_cat (pe_slice sl_list (pv 1) po_none (po_some (pv 4))) (pe_revL (pe_slice sl_list (pv 1) (po_some (pv 4)) (po_some (pe_op op_add (pv 4) pe_int))))) (pe_slice sl_list (pv 1) (po_some (pe_op op_add (pv 4) pe_int)) po_none)))) pss_nil)
      (pss_cons (ps_if (pt_cmpR op_eq (pv 3) pe_int (nomark _)) (pss_cons (ps_set (i := 6) sc_l_bent_rows.nd rfl (Or.inl rfl) (pe_lst (pa_cons (pe_lst (pa_cons pe_str (pa_cons pe_str pa_nil))) (pa_cons (pe_lst (pa_cons pe_str (pa_cons pe_str (pa_cons pe_str pa_nil)))) (pa_cons (pe_lst (pa_cons pe_str (pa_cons pe_str (pa_cons pe_str (pa_cons pe_str pa_nil))))) (pa_cons (pe_lst (pa_cons pe_str (pa_cons pe_str (pa_cons pe_str (pa_cons pe_str pa_nil))))) pa_nil))))))
       (pss_one (ps_ret (pe_op op_cat (pe_op op_cat (pe_slice sl_list (pv 1) po_none (po_some (pv 4))) (pe_lst (pa_cons (pe_ix ix_list (pv 6) (pe_call (ok_l_draw T) (hr.mono (by decide)) (by rfl) T.g__law_draw (T.F_l_draw).kp T.b_l_draw .nil (E := E0) pass0 (pa_cons (pv 0) (pa_cons pe_int pa_nil))) (fun _ _ => rfl)) pa_nil))) (pe_slice sl_list (pv 1) (po_some (pv 4)) po_none))))) pss_nil)
      (pss_one (ps_ret (pe_op op_cat (pe_op op_cat (pe_slice sl_list (pv 1) po_none (po_some (pv 4))) (pe_lst (pa_cons (pe_call (ok_l_bent_words T) hr (by rfl) T.g__law_bent_words (T.F_l_bent_words).kp T.b_l_bent_words .nil (E := E0) pass0 (pa_cons (pv 0) (pa_cons (pe_ix ix_list (pv 1) (pv 4) (fun _ _ => rfl)) (pa_cons (pv 2) pa_nil)))) pa_nil))) (pe_slice sl_list (pv 1) (po_some (pe_op op_add (pv 4) pe_int)) po_none))))))))))), ?_⟩
    refine ⟨(by show 15 ≤ sizeLine; decide), fun s0 n0 => ?_⟩
    have y0 : Same H (upd H s0 (.lst ((["parish", "house", "held", "a", "0", "00", "1", "360", "361", "9999", "10000", "x1", "A", "5", "houses"] : List Str).map V.str))) := Same.new n0
    obtain ⟨H0, e0⟩ : ∃ H0, H0 = upd H s0 (.lst ((["parish", "house", "held", "a", "0", "00", "1", "360", "361", "9999", "10000", "x1", "A", "5", "houses"] : List Str).map V.str)) := ⟨_, rfl⟩
    rw [← e0] at y0
    have hs0 : H0 s0 = some (.lst ((["parish", "house", "held", "a", "0", "00", "1", "360", "361", "9999", "10000", "x1", "A", "5", "houses"] : List Str).map V.str)) := by
      rw [e0]
      exact upd_same
    have hp0 := y0 _ _ hp
    have hits0 : ∀ x ∈ its, RowW H0 n x := fun x hx => (hits x hx).same y0
    have goal0 : ∀ {G : Hp → Prop}, G H0 → G (upd H s0 (.lst ((["parish", "house", "held", "a", "0", "00", "1", "360", "361", "9999", "10000", "x1", "A", "5", "houses"] : List Str).map V.str))) := fun h => by rw [← e0]; exact h
    refine goal0 (G := fun Hx => tSeq _ _ _ _ Hx) ?_
    have wl0 : Walk (Itl K p) its.length (fun Hx => SqL K Hx p (its.map vRow)) (YAt (its.map vRow)) := by
      have := walk_list (K := K) (a := p) (xs := its.map vRow)
      rw [List.length_map] at this
      exact this
    refine ⟨_, rfl, _, rfl, p, rfl, ⟨_, SqL.of hp0⟩, fun D nD => lc_sel its vRow (fun x => decide (1 < x.2.length)) (fun x => .str (wd x.2 1)) wl0 (Nat.le_of_lt (sz2 (by omega))) (yat_list its vRow) (fun acc => SqL.of ((Same.new nD) _ _ hp0)) (fun x acc N hx hl hy hno => ?_) ?_⟩
    · have R := hits0 x hx
      have hx1 : ∀ acc, upd H0 D (.lst acc) x.1 = some (.lst (x.2.map V.str)) := fun acc => (Same.new nD) _ _ R.1
      refine ⟨rfl, _, rfl, x.1, _, rfl, .inl (SqL.of (hx1 acc)), _, _, rfl, rfl, _, rfl, iteD (fun c => ?_) (fun c => ?_)⟩
      · rw [List.length_map] at c
        have c : 1 < x.2.length := by omega
        have e : wd x.2 1 = x.2[1] := by
          unfold wd
          rw [List.getElem?_eq_getElem c]
          rfl
        refine ⟨_, rfl, x.1, _, _, _, rfl, rfl, SqL.of (hx1 acc), atI_map x.2 1 (List.getElem?_eq_getElem c), acc, upd_same, hl, ?_⟩
        rw [upd_upd, ← e]
        exact hy (decide_eq_true c)
      · rw [List.length_map] at c
        exact hno (decide_eq_false (by omega))
    have eD : ((its.filter fun x => decide (1 < x.2.length)).map fun x => V.str (wd x.2 1)) = ((its.filter fun x => decide (1 < x.2.length)).map fun x => wd x.2 1).map V.str := by
      rw [List.map_map]
      rfl
    rw [eD]
    have fmore : Few 30 ((its.filter fun x => decide (1 < x.2.length)).map fun x => wd x.2 1) := fun z hz => by
      obtain ⟨x, hx, e⟩ := List.mem_map.mp hz
      rw [← e]
      exact few_wd (hits0 x (List.mem_filter.mp hx).1).2.2.2 1
    have lmore : ((its.filter fun x => decide (1 < x.2.length)).map fun x => wd x.2 1).length ≤ 199 := by
      rw [List.length_map]
      exact Nat.le_trans (List.length_filter_le _ _) (by omega)
    generalize ((its.filter fun x => decide (1 < x.2.length)).map fun x => wd x.2 1) = mo at fmore lmore
    have yD := Same.new (o := .lst (mo.map V.str)) nD
    refine ⟨_, rfl, D, _, rfl, SqL.of upd_same, fun p1 n1 => ?_⟩
    have y1 := Same.new (o := .lst (cutV (mo.map V.str) none (some 8))) n1
    refine ⟨s0, p1, _, _, rfl, rfl, y1 _ _ (yD _ _ hs0), upd_same, ss3 (by show 15 ≤ 10000; decide) (Nat.le_trans (cl (by rw [List.length_map]; exact lmore)) (by decide)), fun sl n2 => ?_⟩
    have y2 := Same.new (o := .lst ((["parish", "house", "held", "a", "0", "00", "1", "360", "361", "9999", "10000", "x1", "A", "5", "houses"] : List Str).map V.str ++ cutV (mo.map V.str) none (some 8))) n2
    obtain ⟨H1, e1⟩ : ∃ H1, H1 = upd (upd (upd H0 D (.lst (mo.map V.str))) p1 (.lst (cutV (mo.map V.str) none (some 8)))) sl (.lst ((["parish", "house", "held", "a", "0", "00", "1", "360", "361", "9999", "10000", "x1", "A", "5", "houses"] : List Str).map V.str ++ cutV (mo.map V.str) none (some 8))) := ⟨_, rfl⟩
    have y01 : Same H H1 := by
      rw [e1]
      exact y0.trans ((yD.trans y1).trans y2)
    obtain ⟨ss, ess⟩ : ∃ ss : List Str, ss = (["parish", "house", "held", "a", "0", "00", "1", "360", "361", "9999", "10000", "x1", "A", "5", "houses"] : List Str) ++ cutA mo none (some 8) := ⟨_, rfl⟩
    have hsl : H1 sl = some (.lst (ss.map V.str)) := by
      rw [e1, upd_same, ess, cutV_map, ← List.map_append]
    have fss : Few 30 ss := by
      rw [ess]
      exact Few.app (by unfold Few; decide +kernel) fmore.cut
    have lss : 1 ≤ ss.length ∧ ss.length ≤ 1000 := by
      have := cutA_to mo (v := 8) (by decide)
      rw [ess, List.length_append, this]
      show 1 ≤ 15 + _ ∧ 15 + _ ≤ 1000
      omega
    have goal1 : ∀ {G : Hp → Prop}, G H1 → G (upd (upd (upd H0 D (.lst (mo.map V.str))) p1 (.lst (cutV (mo.map V.str) none (some 8)))) sl (.lst ((["parish", "house", "held", "a", "0", "00", "1", "360", "361", "9999", "10000", "x1", "A", "5", "houses"] : List Str).map V.str ++ cutV (mo.map V.str) none (some 8)))) := fun h => by rw [← e1]; exact h
    refine goal1 (G := fun Hx => tSeq _ _ _ _ Hx) ?_
    clear goal0 goal1
    have M1 := M.same y01
    have hp1 := y01 _ _ hp
    have hits1 : ∀ x ∈ its, RowW H1 n x := fun x hx => (hits x hx).same y01
    clear eD fmore lmore
    refine ⟨_, rfl, m, Lf, C, k, 8, rfl, M1, by decide, by decide, by omega, fun way H2 a0 a1 x2 M2 => ?_⟩
    have hp2 := x2 _ _ (M1.rows hp1 l1) hp1
    refine ⟨_, rfl, _, rfl, p, _, rfl, .inl (SqL.of hp2), m, Lf, C, k + 1, _, rfl, M2, by rw [List.length_map]; omega, by rw [List.length_map]; omega, by omega, fun at_ H3 b0 b1 x3 M3 => ?_⟩
    have hp3 := x3 _ _ (M2.rows hp2 l1) hp2
    refine ⟨_, rfl, _, rfl, p, _, rfl, .inl (SqL.of hp3), m, Lf, C, k + 1 + 1, _, rfl, M3, by rw [List.length_map]; omega, by rw [List.length_map]; omega, by omega, fun other H4 c0 c1 x4 M4 => ⟨_, _, _, rfl, ?_⟩⟩
    have hp4 := x4 _ _ (M3.rows hp3 l1) hp3
    have x14 : SameXs [m, Lf] H1 H4 := (x2.trans x3).trans x4
    have x04 : SameXs [m, Lf] H H4 := (Same.toXs y01).trans x14
    have hits4 : ∀ x ∈ its, RowW H4 n x := fun x hx => (hits1 x hx).x M1 x14
    have hsl4 := x14 _ _ (M1.strs hsl lss.1) hsl
    rw [List.length_map] at b1 c1
    have lw : (its.map vRow).length ≤ 1000 := by rw [List.length_map]; omega
    have fin : ∀ (q' : Addr) (H5 : Hp) (its' : List (Addr × List Str)), Same H4 H5 → H5 q' = some (.lst (its'.map vRow)) → 1 ≤ its'.length → its'.length ≤ its.length + 1 → (∀ x ∈ its', x ∈ its ∨ RowW H5 (n + 1) x) → Q (.ref q') H5 := fun q' H5 its' s5 h5 n1 n2 hx => q q' H5 _ (x04.trans (Same.toXs s5))
      ⟨its', h5, fun x hx' => by
        rcases hx x hx' with h | h
        · exact ((hits4 x h).same s5).up
        · exact h, n1, by omega⟩ (M4.same s5) (by omega)
    have inl : ∀ {its' : List (Addr × List Str)} {H5 : Hp}, (∀ x ∈ its', x ∈ its) → ∀ x ∈ its', x ∈ its ∨ RowW H5 (n + 1) x := fun h x hx => .inl (h x hx)
    refine ⟨_, rfl, rfl, _, rfl, iteD (fun c => ?_) (fun c => ?_)⟩
    · refine ⟨_, rfl, p, _, rfl, .inl (SqL.of hp4), _, _, rfl, rfl, _, rfl, iteD (fun c2 => ?_) (fun c2 => ?_)⟩
      · refine ⟨_, rfl, _, rfl, _, rfl, p, _, rfl, SqL.of hp4, fun p1 n1 => ?_⟩
        have y1 := Same.new (o := .lst (cutV (its.map vRow) none (some at_))) n1
        refine ⟨_, rfl, _, rfl, _, _, rfl, rfl, _, rfl, p, _, rfl, SqL.of (y1 _ _ hp4), fun p2 n2 => ?_⟩
        have y2 := Same.new (o := .lst (cutV (its.map vRow) (some (at_ + 1)) none)) n2
        refine ⟨p1, p2, _, _, rfl, rfl, y2 _ _ upd_same, upd_same, ss3 (Nat.le_trans (cl lw) (by decide)) (Nat.le_trans (cl lw) (by decide)), fun p3 n3 => ?_⟩
        rw [List.length_map] at c2
        refine fin p3 _ (cutA its none (some at_) ++ cutA its (some (at_ + 1)) none) ((y1.trans y2).trans (Same.new n3)) (by rw [upd_same, cutV_map, cutV_map, ← List.map_append]) ?_ ?_ (inl fun x hx => ?_)
        · rw [List.length_append, cutA_to _ b0, cutA_from _ (by omega)]
          omega
        · rw [List.length_append, cutA_to _ b0, cutA_from _ (by omega)]
          omega
        · rcases List.mem_append.mp hx with hx | hx <;> exact cutA_mem hx
      · refine ⟨(by show 2 ≤ sizeLine; decide), fun p1 n1 => ⟨(by show 1 ≤ sizeLine; decide), fun p2 n2 => ?_⟩⟩
        have y1 := Same.new (o := .lst ((["parish", "a"] : List Str).map V.str)) n1
        have y2 := Same.new (o := .lst [.ref p1]) n2
        refine fin p2 _ [(p1, ["parish", "a"])] (y1.trans y2) upd_same (by show 1 ≤ 1; decide) (by show 1 ≤ its.length + 1; omega) (fun x hx => .inr ?_)
        rw [List.mem_singleton] at hx
        subst hx
        exact ⟨y2 _ _ upd_same, by show 1 ≤ 2; decide, by show 2 ≤ n + 1; omega, (show Few 30 ["parish", "a"] by unfold Few; decide +kernel)⟩
    · refine ⟨_, rfl, rfl, _, rfl, iteD (fun c => ?_) (fun c => ?_)⟩
      · obtain ⟨z, hz, hat⟩ := pickR (n := its.length) rfl c0 c1
        refine ⟨_, rfl, _, rfl, _, rfl, p, _, rfl, SqL.of hp4, fun p1 n1 => ?_⟩
        have y1 := Same.new (o := .lst (cutV (its.map vRow) none (some at_))) n1
        refine ⟨_, rfl, _, rfl, p, _, _, _, rfl, rfl, SqL.of (y1 _ _ hp4), hat, (by show 1 ≤ sizeLine; decide), fun p2 n2 => ?_⟩
        have y2 := Same.new (o := .lst [vRow z]) n2
        refine ⟨p1, p2, _, _, rfl, rfl, y2 _ _ upd_same, upd_same, ss3 (Nat.le_trans (cl lw) (by decide)) (by show 1 ≤ 10000; decide), fun p3 n3 => ?_⟩
        have y3 := Same.new (o := .lst (cutV (its.map vRow) none (some at_) ++ [vRow z])) n3
        have y13 := (y1.trans y2).trans y3
        refine ⟨_, rfl, _, rfl, _, rfl, p, _, rfl, SqL.of (y13 _ _ hp4), fun p4 n4 => ?_⟩
        have y4 := Same.new (o := .lst (cutV (its.map vRow) (some at_) none)) n4
        refine ⟨p3, p4, _, _, rfl, rfl, y4 _ _ upd_same, upd_same, ss3 (Nat.le_trans (la (cl lw) (Nat.le_refl _)) (by show 1000 + 1 ≤ 10000; decide)) (Nat.le_trans (cl lw) (by decide)), fun p5 n5 => ?_⟩
        refine fin p5 _ (cutA its none (some at_) ++ [z] ++ cutA its (some at_) none) ((y13.trans y4).trans (Same.new n5)) (by rw [upd_same, cutV_map, cutV_map, List.map_append, List.map_append]; rfl) ?_ ?_ (inl fun x hx => ?_)
        · rw [List.length_append, List.length_append, cutA_to _ b0, cutA_from _ b0]
          show 1 ≤ _ + 1 + _
          omega
        · rw [List.length_append, List.length_append, cutA_to _ b0, cutA_from _ b0]
          show _ + 1 + _ ≤ _
          omega
        · rcases List.mem_append.mp hx with hx | hx
          · rcases List.mem_append.mp hx with hx | hx
            · exact cutA_mem hx
            · rw [List.mem_singleton] at hx
              rw [hx]
              exact hz
          · exact cutA_mem hx
      · refine ⟨_, rfl, rfl, _, rfl, iteD (fun c => ?_) (fun c => ?_)⟩
        · refine ⟨_, rfl, _, rfl, _, rfl, p, _, rfl, SqL.of hp4, fun p1 n1 => ?_⟩
          have y1 := Same.new (o := .lst (cutV (its.map vRow) none (some at_))) n1
          refine ⟨_, rfl, _, rfl, _, rfl, _, rfl, _, _, rfl, rfl, _, rfl, p, _, rfl, SqL.of (y1 _ _ hp4), fun p2 n2 => ?_⟩
          have y2 := Same.new (o := .lst (cutV (its.map vRow) (some at_) (some (at_ + 2)))) n2
          refine ⟨p2, _, rfl, SqL.of upd_same, fun p3 n3 => ?_⟩
          have y3 := Same.new (o := .lst (cutV (its.map vRow) (some at_) (some (at_ + 2))).reverse) n3
          refine ⟨p1, p3, _, _, rfl, rfl, y3 _ _ (y2 _ _ upd_same), upd_same, ss3 (Nat.le_trans (cl lw) (by decide)) (by rw [List.length_reverse]; exact Nat.le_trans (cl lw) (by decide)), fun p4 n4 => ?_⟩
          have y4 := Same.new (o := .lst (cutV (its.map vRow) none (some at_) ++ (cutV (its.map vRow) (some at_) (some (at_ + 2))).reverse)) n4
          have y14 := ((y1.trans y2).trans y3).trans y4
          refine ⟨_, rfl, _, rfl, _, _, rfl, rfl, _, rfl, p, _, rfl, SqL.of (y14 _ _ hp4), fun p5 n5 => ?_⟩
          have y5 := Same.new (o := .lst (cutV (its.map vRow) (some (at_ + 2)) none)) n5
          refine ⟨p4, p5, _, _, rfl, rfl, y5 _ _ upd_same, upd_same, ss3 (Nat.le_trans (la (cl lw) (by rw [List.length_reverse]; exact cl lw)) (by show 1000 + 1000 ≤ 10000; decide)) (Nat.le_trans (cl lw) (by decide)), fun p6 n6 => ?_⟩
          refine fin p6 _ (cutA its none (some at_) ++ (cutA its (some at_) (some (at_ + 2))).reverse ++ cutA its (some (at_ + 2)) none) ((y14.trans y5).trans (Same.new n6)) (by rw [upd_same, cutV_map, cutV_map, cutV_map, List.map_append, List.map_append, List.map_reverse]) ?_ ?_ (inl fun x hx => ?_)
          · rw [List.length_append, List.length_append, List.length_reverse, cutA_to _ b0, cutA_from _ (by omega), cutA_mid _ b0 (by omega)]
            omega
          · rw [List.length_append, List.length_append, List.length_reverse, cutA_to _ b0, cutA_from _ (by omega), cutA_mid _ b0 (by omega)]
            omega
          · rcases List.mem_append.mp hx with hx | hx
            · rcases List.mem_append.mp hx with hx | hx
              · exact cutA_mem hx
              · exact cutA_mem (List.mem_reverse.mp hx)
            · exact cutA_mem hx
        · refine ⟨_, rfl, rfl, _, rfl, iteD (fun c => ?_) (fun c => ?_)⟩
          · refine ⟨(by show 2 ≤ sizeLine; decide), fun r1 n1 => ⟨(by show 3 ≤ sizeLine; decide), fun r2 n2 => ⟨(by show 4 ≤ sizeLine; decide), fun r3 n3 => ⟨(by show 4 ≤ sizeLine; decide), fun r4 n4 => ⟨(by show 4 ≤ sizeLine; decide), fun nw n5 => ?_⟩⟩⟩⟩⟩
            have z1 := Same.new (o := .lst ((["parish", "qqq"] : List Str).map V.str)) n1
            have z2 := Same.new (o := .lst ((["house", "qqq", "0"] : List Str).map V.str)) n2
            have z3 := Same.new (o := .lst ((["held", "qqq", "360", "360"] : List Str).map V.str)) n3
            have z4 := Same.new (o := .lst ((["held", "qqq", "1", "1"] : List Str).map V.str)) n4
            obtain ⟨nws, enw⟩ : ∃ nws : List (Addr × List Str), nws = ([(r1, (["parish", "qqq"] : List Str)), (r2, ["house", "qqq", "0"]), (r3, ["held", "qqq", "360", "360"]), (r4, ["held", "qqq", "1", "1"])] : List (Addr × List Str)) := ⟨_, rfl⟩
            have z5 := Same.new (o := .lst [.ref r1, .ref r2, .ref r3, .ref r4]) n5
            have z45 := ((z1.trans z2).trans z3).trans (z4.trans z5)
            obtain ⟨H5, e5⟩ : ∃ H5, H5 = upd (upd (upd (upd (upd H4 r1 (.lst ((["parish", "qqq"] : List Str).map V.str))) r2 (.lst ((["house", "qqq", "0"] : List Str).map V.str))) r3 (.lst ((["held", "qqq", "360", "360"] : List Str).map V.str))) r4 (.lst ((["held", "qqq", "1", "1"] : List Str).map V.str))) nw (.lst [.ref r1, .ref r2, .ref r3, .ref r4]) := ⟨_, rfl⟩
            have hnw : ∀ x ∈ nws, RowW H5 (n + 1) x := fun x hx => by
              rw [enw] at hx
              rw [e5]
              simp at hx
              rcases hx with rfl | rfl | rfl | rfl
              · exact ⟨z5 _ _ (z4 _ _ (z3 _ _ (z2 _ _ upd_same))), by show 1 ≤ 2; decide, by show 2 ≤ n + 1; omega, (show Few 30 ["parish", "qqq"] by unfold Few; decide +kernel)⟩
              · exact ⟨z5 _ _ (z4 _ _ (z3 _ _ upd_same)), by show 1 ≤ 3; decide, by show 3 ≤ n + 1; omega, (show Few 30 ["house", "qqq", "0"] by unfold Few; decide +kernel)⟩
              · exact ⟨z5 _ _ (z4 _ _ upd_same), by show 1 ≤ 4; decide, by show 4 ≤ n + 1; omega, (show Few 30 ["held", "qqq", "360", "360"] by unfold Few; decide +kernel)⟩
              · exact ⟨z5 _ _ upd_same, by show 1 ≤ 4; decide, by show 4 ≤ n + 1; omega, (show Few 30 ["held", "qqq", "1", "1"] by unfold Few; decide +kernel)⟩
            have hN : H5 nw = some (HO.lst (nws.map vRow)) := by
              rw [e5, enw]
              exact upd_same
            have lN : nws.length = 4 := by rw [enw]; rfl
            clear enw
            subst e5
            refine ⟨_, rfl, _, rfl, _, rfl, p, _, rfl, SqL.of (z45 _ _ hp4), fun p1 n1 => ?_⟩
            have y1 := Same.new (o := .lst (cutV (its.map vRow) none (some at_))) n1
            have M5 := (M4.same z45).same y1
            refine ⟨_, rfl, _, rfl, m, Lf, C, k + 1 + 1 + 1, 4, rfl, M5, by decide, by decide, by omega, fun r6 H6 d0 d1 x6 M6 => ?_⟩
            obtain ⟨z, hz, hat⟩ := pickR (n := 4) lN d0 d1
            have hN6 := x6 _ _ (M5.rows (y1 _ _ hN) (by omega)) (y1 _ _ hN)
            have hp6 := x6 _ _ (M5.rows (y1 _ _ (z45 _ _ hp4)) l1) (y1 _ _ (z45 _ _ hp4))
            have hp16 := x6 _ _ ((M4.same z45).new n1) upd_same
            have R6 : RowW H6 (n + 1) z := ((hnw z hz).same y1).x M5 x6
            refine ⟨nw, _, _, _, rfl, rfl, SqL.of hN6, hat, (by show 1 ≤ sizeLine; decide), fun p2 n2 => ?_⟩
            have y2 := Same.new (o := .lst [vRow z]) n2
            refine ⟨p1, p2, _, _, rfl, rfl, y2 _ _ hp16, upd_same, ss3 (Nat.le_trans (cl lw) (by decide)) (by show 1 ≤ 10000; decide), fun p3 n3 => ?_⟩
            have y3 := Same.new (o := .lst (cutV (its.map vRow) none (some at_) ++ [vRow z])) n3
            have y23 := y2.trans y3
            refine ⟨_, rfl, _, rfl, _, rfl, p, _, rfl, SqL.of (y23 _ _ hp6), fun p4 n4 => ?_⟩
            have y4 := Same.new (o := .lst (cutV (its.map vRow) (some at_) none)) n4
            refine ⟨p3, p4, _, _, rfl, rfl, y4 _ _ upd_same, upd_same, ss3 (Nat.le_trans (la (cl lw) (Nat.le_refl _)) (by show 1000 + 1 ≤ 10000; decide)) (Nat.le_trans (cl lw) (by decide)), fun p5 n5 => ?_⟩
            have y5 := Same.new (o := .lst (cutV (its.map vRow) none (some at_) ++ [vRow z] ++ cutV (its.map vRow) (some at_) none)) n5
            have y25 := (y23.trans y4).trans y5
            have x46 : SameXs [m, Lf] H4 H6 := (Same.toXs (z45.trans y1)).trans x6
            refine q p5 _ _ ((x04.trans x46).trans (Same.toXs y25)) ⟨cutA its none (some at_) ++ [z] ++ cutA its (some at_) none, (by rw [upd_same, cutV_map, cutV_map, List.map_append, List.map_append]; rfl), fun x hx => ?_, ?_, ?_⟩ (M6.same y25) (by omega)
            · have old : ∀ {x}, x ∈ its → RowW _ (n + 1) x := fun h => (((hits4 _ h).x M4 x46).same y25).up
              rcases List.mem_append.mp hx with hx | hx
              · rcases List.mem_append.mp hx with hx | hx
                · exact old (cutA_mem hx)
                · rw [List.mem_singleton] at hx
                  rw [hx]
                  exact R6.same y25
              · exact old (cutA_mem hx)
            · rw [List.length_append, List.length_append, cutA_to _ b0, cutA_from _ b0]
              show 1 ≤ _ + 1 + _
              omega
            · rw [List.length_append, List.length_append, cutA_to _ b0, cutA_from _ b0]
              show _ + 1 + _ ≤ _
              omega
          · obtain ⟨z, hz, hat⟩ := pickR (n := its.length) rfl b0 b1
            have R4 := hits4 z hz
            refine ⟨_, rfl, _, rfl, _, rfl, p, _, rfl, SqL.of hp4, fun p1 n1 => ?_⟩
            have y1 := Same.new (o := .lst (cutV (its.map vRow) none (some at_))) n1
            have M5 := M4.same y1
            refine ⟨_, rfl, _, rfl, _, rfl, p, _, _, _, rfl, rfl, SqL.of (y1 _ _ hp4), hat, _, rfl, m, Lf, C, z.1, sl, k + 1 + 1 + 1, z.2, ss, rfl, M5, y1 _ _ R4.1, R4.2.1, Nat.le_trans R4.2.2.1 hn, R4.2.2.2, y1 _ _ hsl4, lss.1, lss.2, fss, by omega, fun pb H6 wb k6 x6 hpb wb1 wb2 fwb M6 le6 => ?_⟩
            have hp6 := x6 _ _ (M5.rows (y1 _ _ hp4) l1) (y1 _ _ hp4)
            have hp16 := x6 _ _ (M4.new n1) upd_same
            have R6 : RowW H6 (n + 1) (pb, wb) := ⟨hpb, wb1, by have := R4.2.2.1; show wb.length ≤ n + 1; omega, fwb⟩
            refine ⟨(by show 1 ≤ sizeLine; decide), fun p2 n2 => ?_⟩
            have y2 := Same.new (o := .lst [.ref pb]) n2
            refine ⟨p1, p2, _, _, rfl, rfl, y2 _ _ hp16, upd_same, ss3 (Nat.le_trans (cl lw) (by decide)) (by show 1 ≤ 10000; decide), fun p3 n3 => ?_⟩
            have y3 := Same.new (o := .lst (cutV (its.map vRow) none (some at_) ++ [.ref pb])) n3
            have y23 := y2.trans y3
            refine ⟨_, rfl, _, rfl, _, _, rfl, rfl, _, rfl, p, _, rfl, SqL.of (y23 _ _ hp6), fun p4 n4 => ?_⟩
            have y4 := Same.new (o := .lst (cutV (its.map vRow) (some (at_ + 1)) none)) n4
            refine ⟨p3, p4, _, _, rfl, rfl, y4 _ _ upd_same, upd_same, ss3 (Nat.le_trans (la (cl lw) (Nat.le_refl _)) (by show 1000 + 1 ≤ 10000; decide)) (Nat.le_trans (cl lw) (by decide)), fun p5 n5 => ?_⟩
            have y5 := Same.new (o := .lst (cutV (its.map vRow) none (some at_) ++ [.ref pb] ++ cutV (its.map vRow) (some (at_ + 1)) none)) n5
            have y25 := (y23.trans y4).trans y5
            have x46 : SameXs [m, Lf] H4 H6 := (Same.toXs y1).trans x6
            refine q p5 _ _ ((x04.trans x46).trans (Same.toXs y25)) ⟨cutA its none (some at_) ++ [(pb, wb)] ++ cutA its (some (at_ + 1)) none, (by rw [upd_same, cutV_map, cutV_map, List.map_append, List.map_append]; rfl), fun x hx => ?_, ?_, ?_⟩ (M6.same y25) (by omega)
            · have old : ∀ {x}, x ∈ its → RowW _ (n + 1) x := fun h => (((hits4 _ h).x M4 x46).same y25).up
              rcases List.mem_append.mp hx with hx | hx
              · rcases List.mem_append.mp hx with hx | hx
                · exact old (cutA_mem hx)
                · rw [List.mem_singleton] at hx
                  rw [hx]
                  exact R6.same y25
              · exact old (cutA_mem hx)
            · rw [List.length_append, List.length_append, cutA_to _ b0, cutA_from _ (by omega)]
              show 1 ≤ _ + 1 + _
              omega
            · rw [List.length_append, List.length_append, cutA_to _ b0, cutA_from _ (by omega)]
              show _ + 1 + _ ≤ _
              omega
end
end Pr
end

section
set_option Elab.async false
set_option linter.all false
set_option maxRecDepth 100000
set_option maxHeartbeats 4000000
/-! Things from far and known ones. -/
namespace Pr
open PySem L2
section
variable {P : Program} {w : World} {K : PySem.W.Frag} {mg : Str → Option Value} {base : Heap}
def TestV (K : PySem.W.Frag) (H : Hp) (v : V) : Prop := NoTxt K H v ∨ ∃ z : Str, v = .str z ∧ z.length ≤ 1000000
theorem TestV.ext {H H' : Hp} {v : V} (h : TestV K H v) (e : LamX.ExtN H H') : TestV K H' v := h.imp (fun h => h.ext e) id
def spTests (K : PySem.W.Frag) : Sp := fun vs H Q _ => vs = [] ∧ ∀ p H' xs, Same H H' → H p = none → H' p = some (.lst xs) → xs.length ≤ 1000 → (∀ v ∈ xs, TestV K H' v) → Q (.ref p) H'
theorem ok_l_far (T : Txt K mg) : FnOk P w K mg base L2.CX0 1 (a_l_far K) (fdOf K (a_l_far K)) P_l_far (spTests K) := by
  refine T.F_l_far.ok sc_l_far (fun vs H Q E h => ?_) (fun cdv A outer s H vs Q E hr h => ?_)
  · obtain ⟨rfl, _⟩ := h
    rfl
  · obtain ⟨rfl, q⟩ := h
    refine ⟨_, PSs.nox (pss_cons (ps_asg (pe_tup (pa_cons pe_int (pa_cons (pe_tup (pa_cons pe_int (pa_cons pe_int pa_nil))) pa_nil))) (pg_tup rfl (pgs_cons (pg_name (i := 0) sc_l_far.nd rfl (Or.inl rfl)) (pgs_cons (pg_name (i := 1) sc_l_far.nd rfl (Or.inl rfl)) pgs_nil))))
      (pss_cons (ps_for PassesOwn.never rfl (pi_range1 (by rfl) T.f_range (pa_cons pe_int pa_nil)) (pg_name (i := 2) sc_l_far.nd rfl (Or.inl rfl))
       (pss_one (ps_set (i := 0) sc_l_far.nd rfl (Or.inl rfl) (pe_tup (pa_cons (pv 0) pa_nil)))))
      (pss_cons (ps_for PassesOwn.never rfl (pi_range1 (by rfl) T.f_range (pa_cons pe_int pa_nil)) (pg_name (i := 2) sc_l_far.nd rfl (Or.inl rfl))
       (pss_one (ps_set (i := 1) sc_l_far.nd rfl (Or.inl rfl) (pe_tup (pa_cons (pv 1) (pa_cons (pv 1) pa_nil))))))
      (pss_one (ps_ret (pe_lst (pa_cons (pv 0) (pa_cons (pv 1) (pa_cons (pe_op op_repT5 (pe_tup (pa_cons pe_int pa_nil)) pe_int) (pa_cons (pe_op op_mulS pe_str pe_int) (pa_cons (pe_lst (pa_cons pe_str pa_nil)) (pa_cons pe_dnewK (pa_cons pe_non (pa_cons pe_bl (pa_cons pe_int (pa_cons (pe_op op_pow pe_int pe_int) pa_nil)))))))))))))))), ?_⟩
    refine ⟨(by show 2 ≤ sizeLine; decide), fun t0 n0 => ⟨(by show 2 ≤ sizeLine; decide), fun t9 n9 => ⟨t9, _, rfl, SqT.of upd_same, rfl, _, _, rfl, _, _, rfl, rfl, ?_⟩⟩⟩
    have y0 := (Same.new (o := .tup [.int 1, .int 1]) n0).trans (Same.new (o := .tup [.int 1, .ref t0]) n9)
    refine ⟨3000, rfl, by decide, by decide, for_range (lo := 0) (n := 3000) (fun i σ H' => ∃ (v : V) (o2 : Option V), σ = [some v, some (.ref t0), o2] ∧ Same H H' ∧ H' t0 = some (.tup [.int 1, .int 1]) ∧ (0 < i → ∃ p xs, v = .ref p ∧ H' p = some (.tup xs))) ⟨.int 1, none, rfl, y0, (Same.new n9) _ _ upd_same, fun h => absurd h (by decide)⟩ ?_ ?_⟩
    · rintro i σ H1 hi ⟨v, o2, rfl, s1, h1, _⟩
      refine ⟨_, rfl, (by show 1 ≤ sizeLine; decide), fun p np => ?_⟩
      have y := Same.new (o := .tup [v]) np
      exact ⟨_, _, rfl, s1.trans y, y _ _ h1, fun _ => ⟨p, _, rfl, upd_same⟩⟩
    · rintro σ H1 ⟨v, o2, rfl, s1, h1, hv⟩
      obtain ⟨dp, dxs, rfl, hdp⟩ := hv (by decide)
      refine ⟨60, rfl, by decide, by decide, for_range (lo := 0) (n := 60) (fun i σ H' => ∃ (u : Addr) (o2 : Option V), σ = [some (.ref dp), some (.ref u), o2] ∧ Same H1 H' ∧ ∃ xs, H' u = some (.tup xs)) ⟨t0, _, rfl, Same.refl _, _, h1⟩ ?_ ?_⟩
      · rintro i σ H2 hi ⟨u, o2, rfl, s2, xs, h2⟩
        refine ⟨_, rfl, _, rfl, (by show 2 ≤ sizeLine; decide), fun p np => ?_⟩
        exact ⟨p, _, rfl, s2.trans (Same.new np), _, upd_same⟩
      · rintro σ H2 ⟨u, o2, rfl, s2, xs, h2⟩
        refine ⟨_, rfl, _, rfl, (by show 1 ≤ sizeLine; decide), fun t1 n1 => ?_⟩
        have y1 := Same.new (o := .tup [.int 1]) n1
        refine ⟨t1, 5000, _, rfl, rfl, SqT.of upd_same, (fun z => nomatch z), by decide, by decide, (by show 1 ≤ 100; decide), fun t2 n2 => ?_⟩
        have y2 := Same.new (o := .tup (List.replicate (5000 : Int).toNat [V.int 1]).flatten) n2
        refine ⟨_, _, rfl, rfl, by decide, by decide, (by decide +kernel), (by show 1 ≤ sizeLine; decide), fun l1 n3 => ?_⟩
        have y3 := Same.new (o := .lst [.str "a"]) n3
        intro d1 n4
        have y4 := Same.new (o := .dK []) n4
        refine ⟨_, _, rfl, rfl, ⟨by decide, by decide, by decide⟩, (by show 10 ≤ sizeLine; decide), fun p np => ?_⟩
        have y5 := Same.new (o := .lst [.ref dp, .ref u, .ref t2, .str (timesS "a" 5000), .ref l1, .ref d1, .non, .bl true, .int 5, .int (10 ^ (30 : Int).toNat)]) np
        have s5 := (((((s1.trans s2).trans y1).trans y2).trans y3).trans y4).trans y5
        refine q p _ _ s5 (((((((s1.trans s2).trans y1).trans y2).trans y3).trans y4)).free np) upd_same (by show 10 ≤ 1000; decide) (fun v hv => ?_)
        have y25 := ((y3.trans y4).trans y5)
        have y15 := (((y1.trans y2).trans y25))
        simp at hv
        rcases hv with rfl | rfl | rfl | rfl | rfl | rfl | rfl | rfl | rfl | rfl
        · exact .inl ⟨"tuple", .base (.tup (y15 _ _ (s2 _ _ hdp))), by decide +kernel⟩
        · exact .inl ⟨"tuple", .base (.tup (y15 _ _ h2)), by decide +kernel⟩
        · exact .inl ⟨"tuple", .base (.tup (y25 _ _ upd_same)), by decide +kernel⟩
        · refine .inr ⟨_, rfl, ?_⟩
          rw [timesS_len _ _ (by decide)]
          decide +kernel
        · exact .inl ⟨"list", .base (.lst (y5 _ _ (y4 _ _ upd_same))), by decide +kernel⟩
        · exact .inl ⟨"dict", .base (.dK (y5 _ _ upd_same)), by decide +kernel⟩
        · exact .inl ⟨"NoneType", .base .non, by decide +kernel⟩
        · exact .inl ⟨"bool", .base (.bl _), by decide +kernel⟩
        · exact .inl ⟨"int", .base (.int _), by decide +kernel⟩
        · exact .inl ⟨"int", .base (.int _), by decide +kernel⟩
end
end Pr
end

section
set_option Elab.async false
set_option linter.all false
set_option maxRecDepth 100000
set_option maxHeartbeats 8000000
/-! The known texts. -/
namespace Pr
open PySem L2
def AllS (vs : List V) : Prop := ∀ v ∈ vs, ∃ z : Str, v = .str z ∧ z.length ≤ 100000
theorem sn : AllS [] := fun v hv => by simp at hv
theorem sc {z : Str} {vs : List V} (h : z.length ≤ 100000) (t : AllS vs) : AllS (.str z :: vs) := fun v hv => by
  rcases List.mem_cons.mp hv with hv | hv
  · exact ⟨z, hv, h⟩
  · exact t v hv
theorem sa {a b : List V} (h1 : AllS a) (h2 : AllS b) : AllS (a ++ b) := fun v hv => by
  rcases List.mem_append.mp hv with hv | hv
  · exact h1 v hv
  · exact h2 v hv
def KR (H0 : Hp) (hd : List V) (k : Nat) (σ : L2.St) (H' : Hp) : Prop := ∃ p vs, σ = [some (.str "parish a\nhouse b 5"), some (.ref p)] ∧ Same H0 H' ∧ H0 p = none ∧ H' p = some (.lst (hd ++ vs)) ∧ vs.length ≤ 8 * k ∧ AllS vs
section
variable {P : Program} {w : World} {K : PySem.W.Frag} {mg : Str → Option Value} {base : Heap}
theorem ok_l_known (T : Txt K mg) : FnOk P w K mg base L2.CX0 1 (a_l_known K) (fdOf K (a_l_known K)) P_l_known (spTests K) := by
  refine T.F_l_known.ok sc_l_known (fun vs H Q E h => ?_) (fun cdv A outer s H vs Q E hr h => ?_)
  · obtain ⟨rfl, _⟩ := h
    rfl
  · obtain ⟨rfl, q⟩ := h
    refine ⟨_, PSs.nox (pss_cons (ps_set (i := 0) sc_l_known.nd rfl (Or.inl rfl) pe_str)
      (pss_cons (ps_set (i := 1) sc_l_known.nd rfl (Or.inl rfl) (pe_lst (pa_cons pe_non (pa_cons pe_int (pa_cons pe_bl (pa_cons (pe_lst (pa_cons pe_str pa_nil)) (pa_cons (pe_tup (pa_cons (pv 0) pa_nil)) (pa_cons pe_dnewK (pa_cons pe_str (pa_cons pe_str (pa_cons pe_str (pa_cons pe_str (pa_cons pe_str (pa_cons pe_str pa_nil))))))))))))))
      (pss_cons (ps_cut (ps_set (i := 1) sc_l_known.nd rfl (Or.inl rfl) (pe_op op_cat (pv 1) (pe_lst (pa_cons pe_str (pa_cons pe_str pa_nil))))))
      (pss_cons (ps_cut (ps_set (i := 1) sc_l_known.nd rfl (Or.inl rfl) (pe_op op_cat (pv 1) (pe_lst (pa_cons (pv 0) (pa_cons (pe_op op_add_str (pv 0) pe_str) (pa_cons (pe_op op_add_str (pv 0) pe_str) (pa_cons (pe_op op_add_str pe_str (pv 0)) (pa_cons (pe_op op_add_str (pv 0) pe_str) (pa_cons pe_str (pa_cons pe_str pa_nil)))))))))))
      (pss_cons (ps_cut (ps_expr (pe_bm PySem.F.plainAttrs_list PySem.F.slot_list_append PySem.F.type_list_append mt_append (pv 1) (pa_cons (pe_op op_add_str (pv 0) pe_str) pa_nil))))
      (pss_cons (ps_cut (ps_set (i := 1) sc_l_known.nd rfl (Or.inl rfl) (pe_op op_cat (pv 1) (pe_lst (pa_cons pe_str (pa_cons pe_str (pa_cons pe_str pa_nil)))))))
      (pss_cons (ps_cut (ps_set (i := 1) sc_l_known.nd rfl (Or.inl rfl) (pe_op op_cat (pv 1) (pe_lst (pa_cons (pe_op op_add_str (pv 0) pe_str) (pa_cons (pe_op op_add_str (pv 0) pe_str) (pa_cons (pe_op op_add_str (pv 0) pe_str) pa_nil)))))))
      (pss_cons (ps_cut (ps_expr (pe_bm PySem.F.plainAttrs_list PySem.F.slot_list_append PySem.F.type_list_append mt_append (pv 1) (pa_cons (pe_op op_add_str (pv 0) pe_str) pa_nil))))
      (pss_cons (ps_cut (ps_set (i := 1) sc_l_known.nd rfl (Or.inl rfl) (pe_op op_cat (pv 1) (pe_lst (pa_cons (pe_op op_add_str (pv 0) pe_str) (pa_cons (pe_op op_add_str (pv 0) pe_str) (pa_cons (pe_op op_add_str (pv 0) pe_str) (pa_cons (pe_op op_add_str (pv 0) pe_str) pa_nil))))))))
      (pss_cons (ps_cut (ps_expr (pe_bm PySem.F.plainAttrs_list PySem.F.slot_list_append PySem.F.type_list_append mt_append (pv 1) (pa_cons (pe_op op_add_str (pv 0) pe_str) pa_nil))))
      (pss_cons (ps_cut (ps_set (i := 1) sc_l_known.nd rfl (Or.inl rfl) (pe_op op_cat (pv 1) (pe_lst (pa_cons (pe_op op_add_str (pv 0) pe_str) (pa_cons (pe_op op_add_str (pv 0) pe_str) pa_nil))))))
      (pss_cons (ps_cut (ps_expr (pe_bm PySem.F.plainAttrs_list PySem.F.slot_list_append PySem.F.type_list_append mt_append (pv 1) (pa_cons (pe_op op_add_str (pv 0) pe_str) pa_nil))))
      (pss_cons (ps_cut (ps_set (i := 1) sc_l_known.nd rfl (Or.inl rfl) (pe_op op_cat (pv 1) (pe_lst (pa_cons (pe_op op_add_str (pv 0) pe_str) (pa_cons (pe_op op_add_str (pv 0) pe_str) (pa_cons (pe_op op_add_str (pv 0) pe_str) (pa_cons (pe_op op_add_str (pv 0) pe_str) pa_nil))))))))
      (pss_cons (ps_cut (ps_expr (pe_bm PySem.F.plainAttrs_list PySem.F.slot_list_append PySem.F.type_list_append mt_append (pv 1) (pa_cons (pe_op op_add_str (pv 0) pe_str) pa_nil))))
      (pss_cons (ps_cut (ps_set (i := 1) sc_l_known.nd rfl (Or.inl rfl) (pe_op op_cat (pv 1) (pe_lst (pa_cons pe_str (pa_cons pe_str (pa_cons pe_str pa_nil)))))))
      (pss_cons (ps_cut (ps_set (i := 1) sc_l_known.nd rfl (Or.inl rfl) (pe_op op_cat (pv 1) (pe_lst (pa_cons pe_str (pa_cons (pe_op op_add_str (pv 0) pe_str) pa_nil))))))
      (pss_cons (ps_cut (ps_set (i := 1) sc_l_known.nd rfl (Or.inl rfl) (pe_op op_cat (pv 1) (pe_lst (pa_cons (pe_op op_add_str (pv 0) pe_str) (pa_cons pe_str (pa_cons pe_str pa_nil)))))))
      (pss_cons (ps_cut (ps_set (i := 1) sc_l_known.nd rfl (Or.inl rfl) (pe_op op_cat (pv 1) (pe_lst (pa_cons (pe_op op_add_str pe_str (pe_op op_mulS pe_str pe_int)) (pa_cons (pe_op op_add_str (pe_op op_add_str (pe_op op_add_str (pv 0) pe_str) (pe_op op_mulS pe_str pe_int)) pe_str) pa_nil))))))
      (pss_one (ps_ret (pe_op op_cat (pv 1) (pe_lst (pa_cons (pe_op op_add_str (pe_op op_add_str (pv 0) pe_str) (pe_op op_mulS pe_str pe_int)) (pa_cons pe_str pa_nil)))))))))))))))))))))))), ?_⟩
    refine ⟨(by show 1 ≤ sizeLine; decide), fun l1 nl1 => ⟨_, rfl, (by show 1 ≤ sizeLine; decide), fun t1 nt1 => ?_⟩⟩
    intro d1 nd1
    have y0 := ((Same.new (o := .lst [.str "parish"]) nl1).trans (Same.new (o := .tup [.str "parish a\nhouse b 5"]) nt1)).trans (Same.new (o := .dK []) nd1)
    refine ⟨(by show 12 ≤ sizeLine; decide), fun p n => ?_⟩
    obtain ⟨H0, e0⟩ : ∃ H0, H0 = upd (upd (upd H l1 (.lst [.str "parish"])) t1 (.tup [.str "parish a\nhouse b 5"])) d1 (.dK []) := ⟨_, rfl⟩
    generalize e1 : upd (upd (upd (upd H l1 (.lst [.str "parish"])) t1 (.tup [.str "parish a\nhouse b 5"])) d1 (.dK [])) p (.lst [.non, .int 5, .bl true, .ref l1, .ref t1, .ref d1, .str "", .str " ", .str "\n", .str "parish", .str "parish a", .str "parish a\n"]) = H1
    have e1 := e1.symm
    rw [← e0] at y0 n e1
    have hl1 : H0 l1 = some (.lst [.str "parish"]) := by rw [e0]; exact (Same.new nd1) _ _ ((Same.new nt1) _ _ upd_same)
    have ht1 : H0 t1 = some (.tup [.str "parish a\nhouse b 5"]) := by rw [e0]; exact (Same.new nd1) _ _ upd_same
    have hd1 : H0 d1 = some (.dK []) := by rw [e0]; exact upd_same
    obtain ⟨hd, ehd⟩ : ∃ hd : List V, hd = [.non, .int 5, .bl true, .ref l1, .ref t1, .ref d1] := ⟨_, rfl⟩
    have lhd : hd.length = 6 := by rw [ehd]; rfl
    obtain ⟨vs, evs⟩ : ∃ vs : List V, vs = [.str "", .str " ", .str "\n", .str "parish", .str "parish a", .str "parish a\n"] := ⟨_, rfl⟩
    have h : H1 p = some (.lst (hd ++ vs)) := by rw [e1, ehd, evs]; exact upd_same
    have s : Same H0 H1 := by rw [e1]; exact Same.new n
    have a : AllS vs := by
      rw [evs]
      exact (sc (by decide +kernel) (sc (by decide +kernel) (sc (by decide +kernel) (sc (by decide +kernel) (sc (by decide +kernel) (sc (by decide +kernel) sn))))))
    have l : vs.length ≤ 8 * 1 := by rw [evs]; decide +revert
    clear e0 e1 evs
    refine ⟨KR H0 hd 2, ?_, ?_⟩
    · refine ⟨_, rfl, (by show 2 ≤ sizeLine; decide), fun q nq => ⟨p, q, _, _, rfl, rfl, (Same.new nq) _ _ h, upd_same, ss3 (by rw [List.length_append, lhd]; omega) (by show 2 ≤ 10000; decide), fun p2 n2 => ?_⟩⟩
      exact ⟨p2, vs ++ _, rfl, s.trans ((Same.new nq).trans (Same.new n2)), (s.trans (Same.new nq)).free n2, upd_same.trans (congrArg (fun l => some (HO.lst l)) (List.append_assoc _ _ _)), (by rw [List.length_append]; show vs.length + 2 ≤ 8 * 2; omega), sa a (sc (by decide +kernel) (sc (by decide +kernel) sn))⟩
    clear h s n l a
    rintro σ H1 ⟨p, vs, rfl, s, n, h, l, a⟩
    refine ⟨KR H0 hd 3, ?_, ?_⟩
    · refine ⟨_, rfl, _, rfl, _, rfl, _, _, rfl, rfl, (by rw [sizeLine_eq]; decide +kernel), _, rfl, _, _, rfl, rfl, (by rw [sizeLine_eq]; decide +kernel), _, rfl, _, _, rfl, rfl, (by rw [sizeLine_eq]; decide +kernel), _, rfl, _, _, rfl, rfl, (by rw [sizeLine_eq]; decide +kernel), (by show 7 ≤ sizeLine; decide), fun q nq => ⟨p, q, _, _, rfl, rfl, (Same.new nq) _ _ h, upd_same, ss3 (by rw [List.length_append, lhd]; omega) (by show 7 ≤ 10000; decide), fun p2 n2 => ?_⟩⟩
      exact ⟨p2, vs ++ _, rfl, s.trans ((Same.new nq).trans (Same.new n2)), (s.trans (Same.new nq)).free n2, upd_same.trans (congrArg (fun l => some (HO.lst l)) (List.append_assoc _ _ _)), (by rw [List.length_append]; show vs.length + 7 ≤ 8 * 3; omega), sa a (sc (by decide +kernel) (sc (by decide +kernel) (sc (by decide +kernel) (sc (by decide +kernel) (sc (by decide +kernel) (sc (by decide +kernel) (sc (by decide +kernel) sn)))))))⟩
    clear h s n l a
    rintro σ H1 ⟨p, vs, rfl, s, n, h, l, a⟩
    refine ⟨KR H0 hd 4, ?_, ?_⟩
    · refine ⟨_, rfl, .inl ⟨rfl, _, SqL.of h⟩, _, rfl, _, _, rfl, rfl, (by rw [sizeLine_eq]; decide +kernel), p, _, _, rfl, rfl, h, sz2 (by rw [List.length_append, lhd]; omega), ?_⟩
      exact ⟨p, vs ++ _, rfl, (fun b u e => by rw [upd_ne (ne_of_none e n)]; exact s b u e), n, upd_same.trans (congrArg (fun l => some (HO.lst l)) (List.append_assoc _ _ _)), (by rw [List.length_append]; show vs.length + 1 ≤ 8 * 4; omega), sa a (sc (by decide +kernel) sn)⟩
    clear h s n l a
    rintro σ H1 ⟨p, vs, rfl, s, n, h, l, a⟩
    refine ⟨KR H0 hd 5, ?_, ?_⟩
    · refine ⟨_, rfl, (by show 3 ≤ sizeLine; decide), fun q nq => ⟨p, q, _, _, rfl, rfl, (Same.new nq) _ _ h, upd_same, ss3 (by rw [List.length_append, lhd]; omega) (by show 3 ≤ 10000; decide), fun p2 n2 => ?_⟩⟩
      exact ⟨p2, vs ++ _, rfl, s.trans ((Same.new nq).trans (Same.new n2)), (s.trans (Same.new nq)).free n2, upd_same.trans (congrArg (fun l => some (HO.lst l)) (List.append_assoc _ _ _)), (by rw [List.length_append]; show vs.length + 3 ≤ 8 * 5; omega), sa a (sc (by decide +kernel) (sc (by decide +kernel) (sc (by decide +kernel) sn)))⟩
    clear h s n l a
    rintro σ H1 ⟨p, vs, rfl, s, n, h, l, a⟩
    refine ⟨KR H0 hd 6, ?_, ?_⟩
    · refine ⟨_, rfl, _, rfl, _, _, rfl, rfl, (by rw [sizeLine_eq]; decide +kernel), _, rfl, _, _, rfl, rfl, (by rw [sizeLine_eq]; decide +kernel), _, rfl, _, _, rfl, rfl, (by rw [sizeLine_eq]; decide +kernel), (by show 3 ≤ sizeLine; decide), fun q nq => ⟨p, q, _, _, rfl, rfl, (Same.new nq) _ _ h, upd_same, ss3 (by rw [List.length_append, lhd]; omega) (by show 3 ≤ 10000; decide), fun p2 n2 => ?_⟩⟩
      exact ⟨p2, vs ++ _, rfl, s.trans ((Same.new nq).trans (Same.new n2)), (s.trans (Same.new nq)).free n2, upd_same.trans (congrArg (fun l => some (HO.lst l)) (List.append_assoc _ _ _)), (by rw [List.length_append]; show vs.length + 3 ≤ 8 * 6; omega), sa a (sc (by decide +kernel) (sc (by decide +kernel) (sc (by decide +kernel) sn)))⟩
    clear h s n l a
    rintro σ H1 ⟨p, vs, rfl, s, n, h, l, a⟩
    refine ⟨KR H0 hd 7, ?_, ?_⟩
    · refine ⟨_, rfl, .inl ⟨rfl, _, SqL.of h⟩, _, rfl, _, _, rfl, rfl, (by rw [sizeLine_eq]; decide +kernel), p, _, _, rfl, rfl, h, sz2 (by rw [List.length_append, lhd]; omega), ?_⟩
      exact ⟨p, vs ++ _, rfl, (fun b u e => by rw [upd_ne (ne_of_none e n)]; exact s b u e), n, upd_same.trans (congrArg (fun l => some (HO.lst l)) (List.append_assoc _ _ _)), (by rw [List.length_append]; show vs.length + 1 ≤ 8 * 7; omega), sa a (sc (by decide +kernel) sn)⟩
    clear h s n l a
    rintro σ H1 ⟨p, vs, rfl, s, n, h, l, a⟩
    refine ⟨KR H0 hd 8, ?_, ?_⟩
    · refine ⟨_, rfl, _, rfl, _, _, rfl, rfl, (by rw [sizeLine_eq]; decide +kernel), _, rfl, _, _, rfl, rfl, (by rw [sizeLine_eq]; decide +kernel), _, rfl, _, _, rfl, rfl, (by rw [sizeLine_eq]; decide +kernel), _, rfl, _, _, rfl, rfl, (by rw [sizeLine_eq]; decide +kernel), (by show 4 ≤ sizeLine; decide), fun q nq => ⟨p, q, _, _, rfl, rfl, (Same.new nq) _ _ h, upd_same, ss3 (by rw [List.length_append, lhd]; omega) (by show 4 ≤ 10000; decide), fun p2 n2 => ?_⟩⟩
      exact ⟨p2, vs ++ _, rfl, s.trans ((Same.new nq).trans (Same.new n2)), (s.trans (Same.new nq)).free n2, upd_same.trans (congrArg (fun l => some (HO.lst l)) (List.append_assoc _ _ _)), (by rw [List.length_append]; show vs.length + 4 ≤ 8 * 8; omega), sa a (sc (by decide +kernel) (sc (by decide +kernel) (sc (by decide +kernel) (sc (by decide +kernel) sn))))⟩
    clear h s n l a
    rintro σ H1 ⟨p, vs, rfl, s, n, h, l, a⟩
    refine ⟨KR H0 hd 9, ?_, ?_⟩
    · refine ⟨_, rfl, .inl ⟨rfl, _, SqL.of h⟩, _, rfl, _, _, rfl, rfl, (by rw [sizeLine_eq]; decide +kernel), p, _, _, rfl, rfl, h, sz2 (by rw [List.length_append, lhd]; omega), ?_⟩
      exact ⟨p, vs ++ _, rfl, (fun b u e => by rw [upd_ne (ne_of_none e n)]; exact s b u e), n, upd_same.trans (congrArg (fun l => some (HO.lst l)) (List.append_assoc _ _ _)), (by rw [List.length_append]; show vs.length + 1 ≤ 8 * 9; omega), sa a (sc (by decide +kernel) sn)⟩
    clear h s n l a
    rintro σ H1 ⟨p, vs, rfl, s, n, h, l, a⟩
    refine ⟨KR H0 hd 10, ?_, ?_⟩
    · refine ⟨_, rfl, _, rfl, _, _, rfl, rfl, (by rw [sizeLine_eq]; decide +kernel), _, rfl, _, _, rfl, rfl, (by rw [sizeLine_eq]; decide +kernel), (by show 2 ≤ sizeLine; decide), fun q nq => ⟨p, q, _, _, rfl, rfl, (Same.new nq) _ _ h, upd_same, ss3 (by rw [List.length_append, lhd]; omega) (by show 2 ≤ 10000; decide), fun p2 n2 => ?_⟩⟩
      exact ⟨p2, vs ++ _, rfl, s.trans ((Same.new nq).trans (Same.new n2)), (s.trans (Same.new nq)).free n2, upd_same.trans (congrArg (fun l => some (HO.lst l)) (List.append_assoc _ _ _)), (by rw [List.length_append]; show vs.length + 2 ≤ 8 * 10; omega), sa a (sc (by decide +kernel) (sc (by decide +kernel) sn))⟩
    clear h s n l a
    rintro σ H1 ⟨p, vs, rfl, s, n, h, l, a⟩
    refine ⟨KR H0 hd 11, ?_, ?_⟩
    · refine ⟨_, rfl, .inl ⟨rfl, _, SqL.of h⟩, _, rfl, _, _, rfl, rfl, (by rw [sizeLine_eq]; decide +kernel), p, _, _, rfl, rfl, h, sz2 (by rw [List.length_append, lhd]; omega), ?_⟩
      exact ⟨p, vs ++ _, rfl, (fun b u e => by rw [upd_ne (ne_of_none e n)]; exact s b u e), n, upd_same.trans (congrArg (fun l => some (HO.lst l)) (List.append_assoc _ _ _)), (by rw [List.length_append]; show vs.length + 1 ≤ 8 * 11; omega), sa a (sc (by decide +kernel) sn)⟩
    clear h s n l a
    rintro σ H1 ⟨p, vs, rfl, s, n, h, l, a⟩
    refine ⟨KR H0 hd 12, ?_, ?_⟩
    · refine ⟨_, rfl, _, rfl, _, _, rfl, rfl, (by rw [sizeLine_eq]; decide +kernel), _, rfl, _, _, rfl, rfl, (by rw [sizeLine_eq]; decide +kernel), _, rfl, _, _, rfl, rfl, (by rw [sizeLine_eq]; decide +kernel), _, rfl, _, _, rfl, rfl, (by rw [sizeLine_eq]; decide +kernel), (by show 4 ≤ sizeLine; decide), fun q nq => ⟨p, q, _, _, rfl, rfl, (Same.new nq) _ _ h, upd_same, ss3 (by rw [List.length_append, lhd]; omega) (by show 4 ≤ 10000; decide), fun p2 n2 => ?_⟩⟩
      exact ⟨p2, vs ++ _, rfl, s.trans ((Same.new nq).trans (Same.new n2)), (s.trans (Same.new nq)).free n2, upd_same.trans (congrArg (fun l => some (HO.lst l)) (List.append_assoc _ _ _)), (by rw [List.length_append]; show vs.length + 4 ≤ 8 * 12; omega), sa a (sc (by decide +kernel) (sc (by decide +kernel) (sc (by decide +kernel) (sc (by decide +kernel) sn))))⟩
    clear h s n l a
    rintro σ H1 ⟨p, vs, rfl, s, n, h, l, a⟩
    refine ⟨KR H0 hd 13, ?_, ?_⟩
    · refine ⟨_, rfl, .inl ⟨rfl, _, SqL.of h⟩, _, rfl, _, _, rfl, rfl, (by rw [sizeLine_eq]; decide +kernel), p, _, _, rfl, rfl, h, sz2 (by rw [List.length_append, lhd]; omega), ?_⟩
      exact ⟨p, vs ++ _, rfl, (fun b u e => by rw [upd_ne (ne_of_none e n)]; exact s b u e), n, upd_same.trans (congrArg (fun l => some (HO.lst l)) (List.append_assoc _ _ _)), (by rw [List.length_append]; show vs.length + 1 ≤ 8 * 13; omega), sa a (sc (by decide +kernel) sn)⟩
    clear h s n l a
    rintro σ H1 ⟨p, vs, rfl, s, n, h, l, a⟩
    refine ⟨KR H0 hd 14, ?_, ?_⟩
    · refine ⟨_, rfl, (by show 3 ≤ sizeLine; decide), fun q nq => ⟨p, q, _, _, rfl, rfl, (Same.new nq) _ _ h, upd_same, ss3 (by rw [List.length_append, lhd]; omega) (by show 3 ≤ 10000; decide), fun p2 n2 => ?_⟩⟩
      exact ⟨p2, vs ++ _, rfl, s.trans ((Same.new nq).trans (Same.new n2)), (s.trans (Same.new nq)).free n2, upd_same.trans (congrArg (fun l => some (HO.lst l)) (List.append_assoc _ _ _)), (by rw [List.length_append]; show vs.length + 3 ≤ 8 * 14; omega), sa a (sc (by decide +kernel) (sc (by decide +kernel) (sc (by decide +kernel) sn)))⟩
    clear h s n l a
    rintro σ H1 ⟨p, vs, rfl, s, n, h, l, a⟩
    refine ⟨KR H0 hd 15, ?_, ?_⟩
    · refine ⟨_, rfl, _, rfl, _, _, rfl, rfl, (by rw [sizeLine_eq]; decide +kernel), (by show 2 ≤ sizeLine; decide), fun q nq => ⟨p, q, _, _, rfl, rfl, (Same.new nq) _ _ h, upd_same, ss3 (by rw [List.length_append, lhd]; omega) (by show 2 ≤ 10000; decide), fun p2 n2 => ?_⟩⟩
      exact ⟨p2, vs ++ _, rfl, s.trans ((Same.new nq).trans (Same.new n2)), (s.trans (Same.new nq)).free n2, upd_same.trans (congrArg (fun l => some (HO.lst l)) (List.append_assoc _ _ _)), (by rw [List.length_append]; show vs.length + 2 ≤ 8 * 15; omega), sa a (sc (by decide +kernel) (sc (by decide +kernel) sn))⟩
    clear h s n l a
    rintro σ H1 ⟨p, vs, rfl, s, n, h, l, a⟩
    refine ⟨KR H0 hd 16, ?_, ?_⟩
    · refine ⟨_, rfl, _, rfl, _, _, rfl, rfl, (by rw [sizeLine_eq]; decide +kernel), (by show 3 ≤ sizeLine; decide), fun q nq => ⟨p, q, _, _, rfl, rfl, (Same.new nq) _ _ h, upd_same, ss3 (by rw [List.length_append, lhd]; omega) (by show 3 ≤ 10000; decide), fun p2 n2 => ?_⟩⟩
      exact ⟨p2, vs ++ _, rfl, s.trans ((Same.new nq).trans (Same.new n2)), (s.trans (Same.new nq)).free n2, upd_same.trans (congrArg (fun l => some (HO.lst l)) (List.append_assoc _ _ _)), (by rw [List.length_append]; show vs.length + 3 ≤ 8 * 16; omega), sa a (sc (by decide +kernel) (sc (by decide +kernel) (sc (by decide +kernel) sn)))⟩
    clear h s n l a
    rintro σ H1 ⟨p, vs, rfl, s, n, h, l, a⟩
    refine ⟨KR H0 hd 17, ?_, ?_⟩
    · refine ⟨_, rfl, _, _, rfl, rfl, (by decide), (by decide), (by decide +kernel), _, _, rfl, rfl, (by rw [timesS_len _ _ (by decide), sizeLine_eq]; decide +kernel), _, rfl, _, _, rfl, rfl, (by rw [sizeLine_eq]; decide +kernel), _, _, rfl, rfl, (by decide), (by decide), (by decide +kernel), _, _, rfl, rfl, (by rw [strLen_append, timesS_len _ _ (by decide), sizeLine_eq]; decide +kernel), _, _, rfl, rfl, (by rw [strLen_append, strLen_append, timesS_len _ _ (by decide), sizeLine_eq]; decide +kernel), (by show 2 ≤ sizeLine; decide), fun q nq => ⟨p, q, _, _, rfl, rfl, (Same.new nq) _ _ h, upd_same, ss3 (by rw [List.length_append, lhd]; omega) (by show 2 ≤ 10000; decide), fun p2 n2 => ?_⟩⟩
      exact ⟨p2, vs ++ _, rfl, s.trans ((Same.new nq).trans (Same.new n2)), (s.trans (Same.new nq)).free n2, upd_same.trans (congrArg (fun l => some (HO.lst l)) (List.append_assoc _ _ _)), (by rw [List.length_append]; show vs.length + 2 ≤ 8 * 17; omega), sa a (sc (by rw [strLen_append, timesS_len _ _ (by decide)]; decide +kernel) (sc (by rw [strLen_append, strLen_append, strLen_append, timesS_len _ _ (by decide)]; decide +kernel) sn))⟩
    clear h s n l a
    rintro σ H1 ⟨p, vs, rfl, s, n, h, l, a⟩
    refine ⟨_, rfl, _, rfl, _, _, rfl, rfl, (by rw [sizeLine_eq]; decide +kernel), _, _, rfl, rfl, (by decide), (by decide), (by decide +kernel), _, _, rfl, rfl, (by rw [strLen_append, timesS_len _ _ (by decide), sizeLine_eq]; decide +kernel), (by show 2 ≤ sizeLine; decide), fun q1 nq => ⟨p, q1, _, _, rfl, rfl, (Same.new nq) _ _ h, upd_same, ss3 (by rw [List.length_append, lhd]; omega) (by show 2 ≤ 10000; decide), fun p2 n2 => ?_⟩⟩
    have sf := fun o => s.trans ((Same.new nq).trans (Same.new (o := o) n2))
    refine q p2 _ (hd ++ (vs ++ _)) (y0.trans (sf _)) (y0.free ((s.trans (Same.new nq)).free n2)) (upd_same.trans (congrArg (fun l => some (HO.lst l)) (List.append_assoc _ _ _))) (by rw [List.length_append, List.length_append, lhd]; show 6 + (vs.length + 2) ≤ 1000; omega) (fun v hv => ?_)
    rcases List.mem_append.mp hv with hv | hv
    · rw [ehd] at hv
      simp at hv
      rcases hv with rfl | rfl | rfl | rfl | rfl | rfl
      · exact .inl ⟨"NoneType", .base .non, by decide +kernel⟩
      · exact .inl ⟨"int", .base (.int _), by decide +kernel⟩
      · exact .inl ⟨"bool", .base (.bl _), by decide +kernel⟩
      · exact .inl ⟨"list", .base (.lst (sf _ _ _ hl1)), by decide +kernel⟩
      · exact .inl ⟨"tuple", .base (.tup (sf _ _ _ ht1)), by decide +kernel⟩
      · exact .inl ⟨"dict", .base (.dK (sf _ _ _ hd1)), by decide +kernel⟩
    · obtain ⟨z, e, hz⟩ := (sa a (sc (by rw [strLen_append, strLen_append, timesS_len _ _ (by decide)]; decide +kernel) (sc (by decide +kernel) sn)) : AllS _) v hv
      exact .inr ⟨z, e, Nat.le_trans hz (by decide)⟩

end
end Pr
end

section
set_option Elab.async false
set_option linter.all false
set_option maxRecDepth 100000
set_option maxHeartbeats 4000000
/-! The law. -/
namespace Pr
open PySem L2
section
variable {P : Program} {w : World} {K : PySem.W.Frag} {mg : Str → Option Value} {base : Heap}
theorem MAt.ext {H H' : Hp} {m Lf C k : _} (M : MAt H m Lf C k) (e : LamX.ExtN H H') : MAt H' m Lf C k := by
  obtain ⟨d, ⟨cs, c1, c2⟩, ⟨ls, l⟩, ne⟩ := M
  exact ⟨e _ _ d (by intro ps z; cases z), ⟨cs, e _ _ c1 (by intro ps z; cases z), c2⟩, ⟨ls, e _ _ l (by intro ps z; cases z)⟩, ne⟩
theorem RowsAt.ext {H H' : Hp} {p : Addr} {n r : Nat} (h : RowsAt H p n r) (e : LamX.ExtN H H') : RowsAt H' p n r := by
  obtain ⟨its, h1, h2, h3, h4⟩ := h
  exact ⟨its, e _ _ h1 (by intro ps z; cases z), fun x hx => ⟨e _ _ (h2 x hx).1 (by intro ps z; cases z), (h2 x hx).2⟩, h3, h4⟩
theorem RowsAt.x {H H' : Hp} {m Lf C k p n r : _} (h : RowsAt H p n r) (M : MAt H m Lf C k) (s : SameXs [m, Lf] H H') : RowsAt H' p n r := by
  obtain ⟨its, h1, h2, h3, h4⟩ := h
  exact ⟨its, s _ _ (M.rows h1 h3) h1, fun x hx => (h2 x hx).x M s, h3, h4⟩
theorem tabs_x {H H' : Hp} {m Lf C k : _} {TT : List (Addr × Str)} (t : LamX.Tabs TT H) (M : MAt H m Lf C k) (s : SameXs [m, Lf] H H') : LamX.Tabs TT H' := fun p hp => by
  obtain ⟨ps, h1, h2, h3⟩ := t p hp
  obtain ⟨d, _, ⟨ls, l⟩, _⟩ := M
  refine ⟨ps, s _ _ (by simp [ne_of h1 d (by intro z; cases z), ne_of h1 l (by intro z; cases z)]) h1, h2, fun pos cv hc => ?_⟩
  obtain ⟨c, e1, e2⟩ := h3 pos cv hc
  have n1 : c ≠ m := ne_of e2 d (by intro z; cases z)
  have n2 : c ≠ Lf := ne_of e2 l (by intro z; cases z)
  exact ⟨c, e1, s _ _ (by simp [n1, n2]) e2⟩
theorem tabs_upd {H : Hp} {D : Addr} {xs ys : List V} {TT : List (Addr × Str)} (t : LamX.Tabs TT H) (h : H D = some (.lst xs)) : LamX.Tabs TT (upd H D (.lst ys)) := fun p hp => by
  obtain ⟨ps, h1, h2, h3⟩ := t p hp
  refine ⟨ps, by rw [upd_ne (ne_of h1 h (by intro z; cases z))]; exact h1, h2, fun pos cv hc => ?_⟩
  obtain ⟨c, e1, e2⟩ := h3 pos cv hc
  have n1 : c ≠ D := ne_of e2 h (by intro z; cases z)
  exact ⟨c, e1, by rw [upd_ne n1]; exact e2⟩
theorem RowsAt.le {H : Hp} {p : Addr} {n r n' r' : Nat} (h : RowsAt H p n r) (h1 : n ≤ n') (h2 : r ≤ r') : RowsAt H p n' r' := by
  obtain ⟨its, a, b, c, d⟩ := h
  exact ⟨its, a, fun x hx => ⟨(b x hx).1, (b x hx).2.1, Nat.le_trans (b x hx).2.2.1 h1, (b x hx).2.2.2⟩, c, Nat.le_trans d h2⟩
theorem lc_listY {K : PySem.W.Frag} {a : Addr} {xs : List V} {g : TG} {te : TE} {vs : List Nat} {σ : L2.St} {H1 : Hp} {D : Addr} {Qd : Hp → Prop} (Pv : Nat → Hp → Prop) (h0 : Pv 0 (upd H1 D (.lst []))) (hl : ∀ i H, i ≤ xs.length → Pv i H → SqL K H a xs)
    (hs : ∀ i x H, xs[i]? = some x → Pv i H → g x (wipe σ vs) H fun σ2 H2 => wipe σ2 vs = wipe σ vs ∧ te σ2 H2 fun y H4 => ∃ acc, H4 D = some (.lst acc) ∧ acc.length < sizeLine ∧ Pv (i + 1) (upd H4 D (.lst (acc ++ [y])))) (hd : ∀ H, Pv xs.length H → Qd H) :
    ∃ W : Nat → Nat → Hp → Prop, (∃ m, W 0 m (upd H1 D (.lst []))) ∧ ∀ i m H, W i m H →
      ((Itl K a).stop i H ∧ Qd H) ∨ ((Itl K a).go i H ∧ ∃ Nx : Hp → Prop, (∀ H', Nx H' → ∃ m', m' < m ∧ W (i + 1) m' H') ∧ ∀ x H', (Itl K a).yld i H x H' → g x (wipe σ vs) H' fun σ2 H2 => wipe σ2 vs = wipe σ vs ∧ tYes σ2 H2 fun b H3 =>
        if b = true then te σ2 H3 fun y H4 => ∃ acc, H4 D = some (.lst acc) ∧ acc.length < sizeLine ∧ Nx (upd H4 D (.lst (acc ++ [y]))) else Nx H3) := by
  refine lc_list Pv h0 hl (fun i x H hx p => ?_) hd
  have q := hs i x H hx p
  have e : (fun (σ2 : L2.St) (H2 : Hp) => wipe σ2 vs = wipe σ vs ∧ tYes σ2 H2 fun b H3 => if b = true then te σ2 H3 fun y H4 => ∃ acc', H4 D = some (.lst acc') ∧ acc'.length < sizeLine ∧ Pv (i + 1) (upd H4 D (.lst (acc' ++ [y]))) else Pv (i + 1) H3) =
      fun σ2 H2 => wipe σ2 vs = wipe σ vs ∧ te σ2 H2 fun y H4 => ∃ acc', H4 D = some (.lst acc') ∧ acc'.length < sizeLine ∧ Pv (i + 1) (upd H4 D (.lst (acc' ++ [y]))) := by
    funext σ2 H2
    simp [tYes]
  rw [e]
  exact q
def spLaw (K : PySem.W.Frag) (tb : Addr) : Sp := fun vs H Q _ => ∃ (a : Addr) (ns : List Int), vs = [.ref a] ∧ SqL K H a (ns.map V.int) ∧ ns.length ≤ 63 ∧ H tb = some (.tbl #[]) ∧ ∀ H', Q (.bl true) H'
theorem ok_law {c tb : Addr} (T : Txt K mg) (TB : LamX.TabB base mg c tb) (hc : (fdOf K (a_l_right K)).code = .ref c) : FnG P w K mg base 12 (a_law K) (fdOf K (a_law K)) P_law (spLaw K tb) := by
  refine okG T.F_law sc_law (fun vs H Q E h => ?_) (fun cdv A outer s H vs Q hG hr lk hcd hcode h => ?_)
  · obtain ⟨a, ns, rfl, _⟩ := h
    rfl
  · obtain ⟨a, ns, rfl, hS, hn, hT, q⟩ := h
    refine ⟨_, PSs.nox (pss_cons (ps_set (i := 1) sc_law.nd rfl (Or.inl rfl) (pe_call (ok_l_begun T) (hr.mono (by decide)) (by rfl) T.g__law_begun (T.F_l_begun).kp T.b_l_begun .nil (E := E0) pass0 (pa_cons (pv 0) pa_nil)))
      (pss_cons (ps_if (pt_not (pt_val (pe_callB (cr_all rfl) (by rfl) T.f_all boot_all' (pa_cons (pe_lc (own := [("_law_text_here", 6)]) (g := gName 6) (tt := tYes) rfl sc_law.nd (pi_list (pe_op op_cat (pe_call0 (ok_l_known T) (hr.mono (by decide)) (by rfl) T.g__law_known (T.F_l_known).kp T.b_l_known .nil (E := E0) pass0) (pe_call0 (ok_l_far T) (hr.mono (by decide)) (by rfl) T.g__law_far (T.F_l_far).kp T.b_l_far .nil (E := E0) pass0))) (blkOk_by (N := N_law) (sc := defScope s_law) (by decide +kernel)) (fun _ _ _ _ _ => pg_name (i := 6) sc_law.nd rfl (Or.inl rfl)) (fun _ _ _ _ _ => pts_nil) (fun _ _ _ _ _ => (pe_callG (ok_l_right T TB hc) hG hr (by rfl) T.g__law_right (T.F_l_right).kp T.b_l_right (pa_cons (pv 6) pa_nil)))) pa_nil)))) (pss_one (ps_ret pe_bl)) pss_nil)
      (pss_cons (ps_set (i := 2) sc_law.nd rfl (Or.inl rfl) (pe_call (ok_l_people T) (hr.mono (by decide)) (by rfl) T.g__law_people (T.F_l_people).kp T.b_l_people .nil (E := E0) pass0 (pa_cons (pv 1) pa_nil)))
      (pss_cons (ps_for PassesOwn.never rfl (pi_range1 (by rfl) T.f_range (pa_cons pe_int pa_nil)) (pg_name (i := 3) sc_law.nd rfl (Or.inl rfl))
       (pss_cons (ps_set (i := 4) sc_law.nd rfl (Or.inl rfl) (pe_call (ok_l_rows T) (hr.mono (by decide)) (by rfl) T.g__law_rows (T.F_l_rows).kp T.b_l_rows .nil (E := E0) pass0 (pa_cons (pe_call (ok_l_county T) (hr.mono (by decide)) (by rfl) T.g__law_county (T.F_l_county).kp T.b_l_county .nil (E := E0) pass0 (pa_cons (pv 1) (pa_cons (pv 2) (pa_cons pe_int (pa_cons pe_int pa_nil))))) pa_nil)))
       (pss_one (ps_for PassesOwn.never rfl (pi_range1 (by rfl) T.f_range (pa_cons pe_int pa_nil)) (pg_name (i := 5) sc_law.nd rfl (Or.inl rfl))
        (pss_cons (ps_if (pt_not (pt_val (pe_callG (ok_l_right T TB hc) hG hr (by rfl) T.g__law_right (T.F_l_right).kp T.b_l_right (pa_cons (pe_op op_add_str (pe_call (ok_l_text T) (hr.mono (by decide)) (by rfl) T.g__law_text (T.F_l_text).kp T.b_l_text .nil (E := E0) pass0 (pa_cons (pv 4) pa_nil)) (pe_ix ix_list (pe_lst (pa_cons pe_str (pa_cons pe_str (pa_cons pe_str (pa_cons pe_str (pa_cons pe_str (pa_cons pe_str pa_nil))))))) (pe_call (ok_l_draw T) (hr.mono (by decide)) (by rfl) T.g__law_draw (T.F_l_draw).kp T.b_l_draw .nil (E := E0) pass0 (pa_cons (pv 1) (pa_cons pe_int pa_nil))) (fun _ _ => rfl))) pa_nil)))) (pss_one (ps_ret pe_bl)) pss_nil)
        (pss_one (ps_set (i := 4) sc_law.nd rfl (Or.inl rfl) (pe_call (ok_l_bent_rows T) (hr.mono (by decide)) (by rfl) T.g__law_bent_rows (T.F_l_bent_rows).kp T.b_l_bent_rows .nil (E := E0) pass0 (pa_cons (pv 1) (pa_cons (pv 4) pa_nil))))))))))
      (pss_one (ps_ret pe_bl)))))), ?_⟩
    have T0 : LamX.Tabs [(tb, qR)] H := fun p hp => by
      rw [List.mem_singleton] at hp
      subst hp
      exact LamX.TabS.nil hT
    refine ⟨_, rfl, a, ns, rfl, hS, Nat.le_trans hn (by decide), fun m Lf C H1 s1 nm nL nC M1 => ?_⟩
    refine ⟨rfl, fun kp H2 kxs s2 nk hk lk kall => ?_⟩
    refine ⟨rfl, fun fp H3 fxs s3 nf hf lf fall => ?_⟩
    have hk3 := s3 _ _ hk
    refine ⟨kp, fp, _, _, rfl, rfl, hk3, hf, ss3 (Nat.le_trans lk (by decide)) (Nat.le_trans lf (by decide)), fun lp nl => ?_⟩
    have y4 := Same.new (o := .lst (kxs ++ fxs)) nl
    have hlp := upd_same (H := H3) (a := lp) (o := HO.lst (kxs ++ fxs))
    have s14 : Same H1 (upd H3 lp (.lst (kxs ++ fxs))) := (s2.trans s3).trans y4
    have allT : ∀ v ∈ kxs ++ fxs, TestV K (upd H3 lp (.lst (kxs ++ fxs))) v := fun v hv => by
      rcases List.mem_append.mp hv with hv | hv
      · exact (kall v hv).ext (Same.extN (s3.trans y4))
      · exact (fall v hv).ext (Same.extN y4)
    have M4 := M1.same s14
    have T4 := (T0.ext s1).ext s14
    generalize upd H3 lp (.lst (kxs ++ fxs)) = H4 at hlp allT M4 T4
    have lall : (kxs ++ fxs).length ≤ 2000 := by
      rw [List.length_append]
      omega
    generalize kxs ++ fxs = all at hlp allT lall
    refine ⟨lp, rfl, ⟨_, SqL.of hlp⟩, fun D nD => ?_⟩
    have offD : ∀ {H' : Hp} {o : HO}, LamX.ExtN H4 H' → LamX.ExtN H4 (upd H' D o) := fun e b u eb n => by
      rw [upd_ne (ne_of_none eb nD)]
      exact e b u eb n
    refine lc_listY (fun i H' => LamX.ExtN H4 H' ∧ LamX.Tabs [(tb, qR)] H' ∧ H' D = some (.lst ((List.replicate i true).map V.bl))) ⟨Same.extN (Same.new nD), T4.ext (Same.new nD), upd_same⟩ (fun i H' _ t => SqL.of (t.1 _ _ hlp (by intro ps z; cases z))) (fun i x H' hx ⟨e1, t1, d1⟩ => ?_) (fun H' ⟨e1, t1, d1⟩ => ?_)
    · refine ⟨rfl, _, rfl, x, rfl, (allT x (List.mem_of_getElem? hx)).ext e1, t1, fun H5 e5 t5 => ?_⟩
      have d5 := e5 _ _ d1 (by intro ps z; cases z)
      have hi := (List.getElem?_eq_some_iff.mp hx).1
      refine ⟨_, d5, by rw [List.length_map, List.length_replicate]; exact Nat.lt_of_lt_of_le (Nat.lt_of_lt_of_le hi lall) (by decide), offD (e1.trans e5), tabs_upd t5 d5, ?_⟩
      rw [upd_same, List.replicate_succ', List.map_append]
      rfl
    · refine ⟨D, List.replicate all.length true, rfl, SqL.of d1, _, rfl, iteBN (fun c => ?_) (fun _ => ?_)⟩
      · exfalso
        have : (List.replicate all.length true).all id = true := by simp
        rw [this] at c
        cases c
      have M5 := M4.ext e1
      clear hlp allT lall nD offD
      refine ⟨_, rfl, m, Lf, C, 0, rfl, M5, by decide, fun pl H6 pns k6 x6 npl hpl lpl fpl M6 le6 => ?_⟩
      have T6 := tabs_x t1 M5 x6
      refine ⟨10, rfl, by decide, by decide, for_range (lo := 0) (n := 10) (fun i σ H' => ∃ (o3 o4 o5 : Option V) (k' : Nat), σ = [some (.ref a), some (.ref m), some (.ref pl), o3, o4, o5, none] ∧ MAt H' m Lf C k' ∧ LamX.Tabs [(tb, qR)] H' ∧ H' pl = some (.lst (pns.map V.str)) ∧ k' ≤ 2000 + 20000 * i) ⟨none, none, none, k6, rfl, M6, T6, hpl, by omega⟩ ?_ ?_⟩
      · rintro i σ H7 hi ⟨o3, o4, o5, k7, rfl, M7, T7, hpl7, le7⟩
        have npl7 := M7.strs hpl7 (by omega)
        refine ⟨_, rfl, _, rfl, m, Lf, C, pl, k7, pns, rfl, M7, hpl7, npl7, lpl, fpl, by omega, fun cp H8 cs k8 x8 hco c3 c1 wk M8 le8 => ?_⟩
        refine ⟨cp, cs, rfl, hco, c3, c1, wk, fun rp H9 _ s9 R9 => ?_⟩
        have M9 := M8.same s9
        have T9 := (tabs_x T7 M7 x8).ext s9
        have hpl9 := s9 _ _ (x8 _ _ npl7 hpl7)
        refine ⟨5, rfl, by decide, by decide, for_range (lo := 0) (n := 5) (fun j σ H' => ∃ (rp : Addr) (o5 : Option V) (k' : Nat), σ = [some (.ref a), some (.ref m), some (.ref pl), some (.int (0 + (i : Int))), some (.ref rp), o5, none] ∧ MAt H' m Lf C k' ∧ LamX.Tabs [(tb, qR)] H' ∧ H' pl = some (.lst (pns.map V.str)) ∧ RowsAt H' rp (4 + j) (171 + j) ∧ k' ≤ k8 + 20 * j) ⟨rp, _, k8, rfl, M9, T9, hpl9, R9, by omega⟩ ?_ ?_⟩
        · rintro j σ H10 hj ⟨rp, o5, k10, rfl, M10, T10, hpl10, R10, le10⟩
          refine ⟨_, rfl, rp, rfl, R10.le (by omega) (by omega), fun z H11 s11 lz => ?_⟩
          have M11 := M10.same s11
          refine ⟨(by show 6 ≤ sizeLine; decide), fun e ne => ?_⟩
          have y11 := Same.new (o := .lst ((["", "", "", " ", "\n", " held"] : List Str).map V.str)) ne
          refine ⟨_, rfl, m, Lf, C, k10, 6, rfl, M11.same y11, by decide, by decide, by omega, fun r H12 a0 a1 x12 M12 => ?_⟩
          obtain ⟨w2, hw2, hat⟩ := pickS (xs := ["", "", "", " ", "\n", " held"]) (n := 6) rfl a0 a1
          have lw2 : w2.length ≤ 5 := by
            have : ∀ y ∈ (["", "", "", " ", "\n", " held"] : List Str), y.length ≤ 5 := by decide +kernel
            exact this w2 hw2
          refine ⟨e, _, _, _, rfl, rfl, SqL.of (x12 _ _ (M11.new ne) upd_same), hat, _, _, rfl, rfl, (by rw [sizeLine_eq]; omega), ?_⟩
          have x1012 : SameXs [m, Lf] H10 H12 := (Same.toXs (s11.trans y11)).trans x12
          have T12 := tabs_x T10 M10 x1012
          have R12 := R10.x M10 x1012
          have hpl12 := x1012 _ _ (M10.strs hpl10 (by omega)) hpl10
          refine ⟨_, rfl, .inr ⟨_, rfl, by rw [strLen_append]; omega⟩, T12, fun H13 e13 T13 => ⟨_, rfl, iteF ?_⟩⟩
          have M13 := M12.ext e13
          have R13 := R12.ext e13
          have hpl13 := e13 _ _ hpl12 (by intro ps z; cases z)
          refine ⟨_, rfl, _, rfl, m, Lf, C, rp, k10 + 1, 4 + j, 171 + j, rfl, M13, R13, by omega, by omega, by omega, by omega, fun rp2 H14 k14 x14 R14 M14 le14 => ?_⟩
          exact ⟨rp2, _, k14, rfl, M14, tabs_x T13 M13 x14, x14 _ _ (M13.strs hpl13 (by omega)) hpl13, R14, by omega⟩
        · rintro σ H10 ⟨rp, o5, k10, rfl, M10, T10, hpl10, R10, le10⟩
          exact ⟨_, _, _, k10, rfl, M10, T10, hpl10, by omega⟩
      · rintro σ H7 ⟨o3, o4, o5, k7, rfl, M7, T7, hpl7, le7⟩
        exact q H7
end
end Pr
end

section
set_option Elab.async false
set_option linter.all false
set_option maxRecDepth 100000
set_option maxHeartbeats 0
namespace Pr
open PySem L2
theorem code_ref {K : PySem.W.Frag} {cd : Value} {q : Str} (h : PySem.W.codeIn K cd q = true) : ∃ c, cd = .ref c := by
  unfold PySem.W.codeIn at h
  split at h
  · exact ⟨_, rfl⟩
  · cases h
theorem txt_of {K : PySem.W.Frag} {mg : Str → Option Value} {w : World} {h : Heap} (X : K.In h) (G : h.Ns mainGlobals mg) (c : He.SaysX fa fn [] tf more w h K) : Txt K mg := ⟨c.t.d, c.more, h, X, G⟩
theorem the_call : PySem.W.WalkO (PySem.W.view R.prog [55]) names (PySem.W.XL (PySem.W.view R.prog [55]) []) hk.says R.toRowW (HandSHeadRun.topDef R.prog 55) [] (fun f vs => PySem.call f vs) := by
  refine walk_G (l := PySem.Challenge.rw_pennyroll_k41_whole_any_text_of_counties) (n := 63) (k := 12) (x := "_law_script") (by rfl) (by decide) (by rfl) ⟨rfl, by decide, by decide⟩ (fun w mg fa' h Y G hmg => ?_)
  obtain ⟨K, X, c⟩ := Y
  have T := txt_of X G c
  have hp : (("_law_right", none) : He.Defn) ∈ tf := List.mem_singleton.mpr rfl
  have e1 := c.hd _ hp
  have e2 := c.out _ hp
  have e3 := c.empty _ hp
  obtain ⟨oc, od, dV, kV, doc, pm, an, cdv, ct, osl, ef, lk, hcd, _, _⟩ := T.F_l_right.ex
  obtain ⟨c0, rfl⟩ := code_ref hcd
  have ec : (fdOf K (a_l_right K)).code = .ref c0 := by
    rw [ef]
  have eco : He.codeOf K ("_law_right", none) = c0 := He.codeOf_eq lk ec
  have e0 : fa' = a_law K := by
    have := T.g_law
    have hmg : mg "law" = some (.ref fa') := hmg
    rw [hmg] at this
    exact Value.ref.inj (Option.some.inj this)
  subst e0
  refine ⟨K, fdOf K (a_law K), c0, (He.cT K ("_law_right", none)).2, spLaw K (He.cT K ("_law_right", none)).2, X, e3, e2, ?_, ?_, ?_, ?_⟩
  · have := PySem.W.codeHd_of_K X e1
    rw [← eco]
    exact this
  · exact fun s u hK => T.b_law s [u] hK rfl
  · exact fun H a ns hl _ hT hS => ⟨a, ns, rfl, hS, hl, hT, fun _ => rfl⟩
  · exact fun base X2 G2 TB => ok_law ⟨T.says, T.more, base, X2, G2⟩ TB ec
end Pr
end

theorem PySem.Challenge.cw_pennyroll_k41_whole_any_text_of_counties_holds : PySem.Challenge.rw_pennyroll_k41_whole_any_text_of_counties.Holds := by
  exact Pr.head Pr.the_call

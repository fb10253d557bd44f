import PyProof.Rows.All
import Wide.All
import OpenK.AllK
import Wide.FinOn
import KE.KStateDown
import HandS.ForMost
import HandS.ForExc
import HandS.ExcInit
import HandS.ExcIs
import HandS.IsInst
import HandS.Lambda
import HandS.HotCalls
import HandS.Defaults
import HandS.Gcd
import HandS.Wide
import HandS.Evl
import HandS.Walk
import KE.IntTextText
import KE.GoesEnum
import HandS.EndBits
import HandS.EndTab
import HandS.Head0
import HandS.Head1
import HandS.Head2
import HandS.Head3
import HandS.HeadHook1
import HandS.HeadHook2
import HandS.HeadHook3
import HandS.HeadHook4
import HandS.HeadWalk
import PySem.Challenge.RW_genuspapers_k75_whole_plain_values
set_option Elab.async false
set_option linter.all false
set_option maxRecDepth 100000
set_option maxHeartbeats 4000000
namespace G
open PySem PySem.Spec PyProof.Rows L2
abbrev Rw : PySem.W.OpenRow := PySem.W.OpenLaw.row PySem.Challenge.rw_genuspapers_k75_whole_plain_values
def top (i : Nat) : Stmt := PySem.Challenge.pw_genuspapers_k75_whole_plain_values.main.body.getD i (.Pass ⟨0, 0, 0, 0⟩)
abbrev s__wall : Stmt := top 1
abbrev s_is_integer : Stmt := top 21
abbrev s_is_ratio : Stmt := top 22
abbrev s_pair : Stmt := top 23
abbrev s_opposite : Stmt := top 24
abbrev s_sign_of : Stmt := top 25
abbrev s_as_tuples : Stmt := top 27
abbrev s_is_list : Stmt := top 28
abbrev s_run_of : Stmt := top 34
abbrev s_tokens_of : Stmt := top 35
abbrev s_is_numeral : Stmt := top 36
abbrev s_is_small : Stmt := top 38
abbrev s_is_plain : Stmt := top 39
abbrev s_ratio_text : Stmt := top 40
abbrev s_text_of_value : Stmt := top 41
abbrev s_value_text : Stmt := top 42
abbrev s_ratio_by : Stmt := top 43
abbrev s_value_by : Stmt := top 44
abbrev s_value_in : Stmt := top 45
abbrev s_value_of_text : Stmt := top 46
abbrev s__law_pen : Stmt := top 48
abbrev s__law_draw : Stmt := top 49
abbrev s__law_pick : Stmt := top 50
abbrev s__law_is : Stmt := top 51
abbrev s__law_divisor : Stmt := top 52
abbrev s__law_low : Stmt := top 53
abbrev s__law_pair : Stmt := top 54
abbrev s__law_times : Stmt := top 55
abbrev s__law_sign : Stmt := top 56
abbrev s__law_is_ratio : Stmt := top 57
abbrev s__law_is_whole : Stmt := top 58
abbrev s__law_number : Stmt := top 59
abbrev s__law_wide : Stmt := top 60
abbrev s__law_fault : Stmt := top 61
abbrev s__law_kinds : Stmt := top 62
abbrev s__law_more_kinds : Stmt := top 63
abbrev s__law_drawn_value : Stmt := top 64
abbrev s__law_tokens_of : Stmt := top 65
abbrev s__law_text_of : Stmt := top 66
abbrev s__law_is_figures : Stmt := top 67
abbrev s__law_read : Stmt := top 68
abbrev s__law_right : Stmt := top 69
abbrev s__law_read_fault : Stmt := top 70
abbrev s_law : Stmt := top 71
abbrev s_BadNumber_init : Stmt := inClass (top 4) 0
abbrev s_BadRow_init : Stmt := inClass (top 5) 0
abbrev s_BadTable_init : Stmt := inClass (top 6) 0
abbrev s_BadForm_init : Stmt := inClass (top 7) 0
abbrev s_BadBook_init : Stmt := inClass (top 8) 0
abbrev s_BadName_init : Stmt := inClass (top 9) 0
abbrev s_BadText_init : Stmt := inClass (top 10) 0
abbrev s_NoPlace_init : Stmt := inClass (top 11) 0
abbrev s_NoName_init : Stmt := inClass (top 12) 0
abbrev s_TakenName_init : Stmt := inClass (top 13) 0
abbrev s_Unlike_init : Stmt := inClass (top 14) 0
abbrev s_NotThere_init : Stmt := inClass (top 15) 0
abbrev s_TooMany_init : Stmt := inClass (top 16) 0
abbrev s_NotKept_init : Stmt := inClass (top 17) 0
abbrev s_Reader_init : Stmt := inClass (top 37) 0
abbrev s_Reader_wrong : Stmt := inClass (top 37) 1
abbrev s_Reader_peek : Stmt := inClass (top 37) 2
abbrev s_Reader_next_is : Stmt := inClass (top 37) 3
abbrev s_Reader_need : Stmt := inClass (top 37) 4
abbrev s_Reader_numeral : Stmt := inClass (top 37) 5
abbrev s_Reader_letter : Stmt := inClass (top 37) 6
abbrev s_Reader_end : Stmt := inClass (top 37) 7
abbrev s_Reader_term : Stmt := inClass (top 37) 8
abbrev s_Reader_terms : Stmt := inClass (top 37) 9
def d__wall : He.DefD := ⟨("_wall", none), "_wall", "_wall", defArgs s__wall, defBody s__wall, defScope s__wall, [], []⟩
def d_is_integer : He.DefD := ⟨("is_integer", none), "is_integer", "is_integer", defArgs s_is_integer, defBody s_is_integer, defScope s_is_integer, [], []⟩
def d_is_ratio : He.DefD := ⟨("is_ratio", none), "is_ratio", "is_ratio", defArgs s_is_ratio, defBody s_is_ratio, defScope s_is_ratio, [], []⟩
def d_pair : He.DefD := ⟨("pair", none), "pair", "pair", defArgs s_pair, defBody s_pair, defScope s_pair, [], []⟩
def d_opposite : He.DefD := ⟨("opposite", none), "opposite", "opposite", defArgs s_opposite, defBody s_opposite, defScope s_opposite, [], []⟩
def d_sign_of : He.DefD := ⟨("sign_of", none), "sign_of", "sign_of", defArgs s_sign_of, defBody s_sign_of, defScope s_sign_of, [], []⟩
def d_as_tuples : He.DefD := ⟨("as_tuples", none), "as_tuples", "as_tuples", defArgs s_as_tuples, defBody s_as_tuples, defScope s_as_tuples, [], []⟩
def d_is_list : He.DefD := ⟨("is_list", none), "is_list", "is_list", defArgs s_is_list, defBody s_is_list, defScope s_is_list, [], []⟩
def d_run_of : He.DefD := ⟨("run_of", none), "run_of", "run_of", defArgs s_run_of, defBody s_run_of, defScope s_run_of, [], []⟩
def d_tokens_of : He.DefD := ⟨("tokens_of", none), "tokens_of", "tokens_of", defArgs s_tokens_of, defBody s_tokens_of, defScope s_tokens_of, [], []⟩
def d_is_numeral : He.DefD := ⟨("is_numeral", none), "is_numeral", "is_numeral", defArgs s_is_numeral, defBody s_is_numeral, defScope s_is_numeral, [], []⟩
def d_is_small : He.DefD := ⟨("is_small", none), "is_small", "is_small", defArgs s_is_small, defBody s_is_small, defScope s_is_small, [], []⟩
def d_is_plain : He.DefD := ⟨("is_plain", none), "is_plain", "is_plain", defArgs s_is_plain, defBody s_is_plain, defScope s_is_plain, [.int 0], []⟩
def d_ratio_text : He.DefD := ⟨("ratio_text", none), "ratio_text", "ratio_text", defArgs s_ratio_text, defBody s_ratio_text, defScope s_ratio_text, [], []⟩
def d_text_of_value : He.DefD := ⟨("text_of_value", none), "text_of_value", "text_of_value", defArgs s_text_of_value, defBody s_text_of_value, defScope s_text_of_value, [], []⟩
def d_value_text : He.DefD := ⟨("value_text", none), "value_text", "value_text", defArgs s_value_text, defBody s_value_text, defScope s_value_text, [], []⟩
def d_ratio_by : He.DefD := ⟨("ratio_by", none), "ratio_by", "ratio_by", defArgs s_ratio_by, defBody s_ratio_by, defScope s_ratio_by, [], []⟩
def d_value_by : He.DefD := ⟨("value_by", none), "value_by", "value_by", defArgs s_value_by, defBody s_value_by, defScope s_value_by, [], []⟩
def d_value_in : He.DefD := ⟨("value_in", none), "value_in", "value_in", defArgs s_value_in, defBody s_value_in, defScope s_value_in, [], []⟩
def d_value_of_text : He.DefD := ⟨("value_of_text", none), "value_of_text", "value_of_text", defArgs s_value_of_text, defBody s_value_of_text, defScope s_value_of_text, [], []⟩
def d__law_pen : He.DefD := ⟨("_law_pen", none), "_law_pen", "_law_pen", defArgs s__law_pen, defBody s__law_pen, defScope s__law_pen, [], []⟩
def d__law_draw : He.DefD := ⟨("_law_draw", none), "_law_draw", "_law_draw", defArgs s__law_draw, defBody s__law_draw, defScope s__law_draw, [], []⟩
def d__law_pick : He.DefD := ⟨("_law_pick", none), "_law_pick", "_law_pick", defArgs s__law_pick, defBody s__law_pick, defScope s__law_pick, [], []⟩
def d__law_is : He.DefD := ⟨("_law_is", none), "_law_is", "_law_is", defArgs s__law_is, defBody s__law_is, defScope s__law_is, [], []⟩
def d__law_divisor : He.DefD := ⟨("_law_divisor", none), "_law_divisor", "_law_divisor", defArgs s__law_divisor, defBody s__law_divisor, defScope s__law_divisor, [], []⟩
def d__law_low : He.DefD := ⟨("_law_low", none), "_law_low", "_law_low", defArgs s__law_low, defBody s__law_low, defScope s__law_low, [], []⟩
def d__law_pair : He.DefD := ⟨("_law_pair", none), "_law_pair", "_law_pair", defArgs s__law_pair, defBody s__law_pair, defScope s__law_pair, [], []⟩
def d__law_times : He.DefD := ⟨("_law_times", none), "_law_times", "_law_times", defArgs s__law_times, defBody s__law_times, defScope s__law_times, [], []⟩
def d__law_sign : He.DefD := ⟨("_law_sign", none), "_law_sign", "_law_sign", defArgs s__law_sign, defBody s__law_sign, defScope s__law_sign, [], []⟩
def d__law_is_ratio : He.DefD := ⟨("_law_is_ratio", none), "_law_is_ratio", "_law_is_ratio", defArgs s__law_is_ratio, defBody s__law_is_ratio, defScope s__law_is_ratio, [], []⟩
def d__law_is_whole : He.DefD := ⟨("_law_is_whole", none), "_law_is_whole", "_law_is_whole", defArgs s__law_is_whole, defBody s__law_is_whole, defScope s__law_is_whole, [], []⟩
def d__law_number : He.DefD := ⟨("_law_number", none), "_law_number", "_law_number", defArgs s__law_number, defBody s__law_number, defScope s__law_number, [], []⟩
def d__law_wide : He.DefD := ⟨("_law_wide", none), "_law_wide", "_law_wide", defArgs s__law_wide, defBody s__law_wide, defScope s__law_wide, [], []⟩
def d__law_fault : He.DefD := ⟨("_law_fault", none), "_law_fault", "_law_fault", defArgs s__law_fault, defBody s__law_fault, defScope s__law_fault, [], []⟩
def d__law_kinds : He.DefD := ⟨("_law_kinds", none), "_law_kinds", "_law_kinds", defArgs s__law_kinds, defBody s__law_kinds, defScope s__law_kinds, [], []⟩
def d__law_more_kinds : He.DefD := ⟨("_law_more_kinds", none), "_law_more_kinds", "_law_more_kinds", defArgs s__law_more_kinds, defBody s__law_more_kinds, defScope s__law_more_kinds, [], []⟩
def d__law_drawn_value : He.DefD := ⟨("_law_drawn_value", none), "_law_drawn_value", "_law_drawn_value", defArgs s__law_drawn_value, defBody s__law_drawn_value, defScope s__law_drawn_value, [], []⟩
def d__law_tokens_of : He.DefD := ⟨("_law_tokens_of", none), "_law_tokens_of", "_law_tokens_of", defArgs s__law_tokens_of, defBody s__law_tokens_of, defScope s__law_tokens_of, [], []⟩
def d__law_text_of : He.DefD := ⟨("_law_text_of", none), "_law_text_of", "_law_text_of", defArgs s__law_text_of, defBody s__law_text_of, defScope s__law_text_of, [], []⟩
def d__law_is_figures : He.DefD := ⟨("_law_is_figures", none), "_law_is_figures", "_law_is_figures", defArgs s__law_is_figures, defBody s__law_is_figures, defScope s__law_is_figures, [], []⟩
def d__law_read : He.DefD := ⟨("_law_read", none), "_law_read", "_law_read", defArgs s__law_read, defBody s__law_read, defScope s__law_read, [], []⟩
def d__law_right : He.DefD := ⟨("_law_right", none), "_law_right", "_law_right", defArgs s__law_right, defBody s__law_right, defScope s__law_right, [], []⟩
def d__law_read_fault : He.DefD := ⟨("_law_read_fault", none), "_law_read_fault", "_law_read_fault", defArgs s__law_read_fault, defBody s__law_read_fault, defScope s__law_read_fault, [], []⟩
def d_law : He.DefD := ⟨("law", none), "law", "law", defArgs s_law, defBody s_law, defScope s_law, [], []⟩
def d_BadNumber_init : He.DefD := ⟨("BadNumber", some "__init__"), "__init__", "BadNumber.__init__", defArgs s_BadNumber_init, defBody s_BadNumber_init, defScope s_BadNumber_init, [], []⟩
def d_BadRow_init : He.DefD := ⟨("BadRow", some "__init__"), "__init__", "BadRow.__init__", defArgs s_BadRow_init, defBody s_BadRow_init, defScope s_BadRow_init, [], []⟩
def d_BadTable_init : He.DefD := ⟨("BadTable", some "__init__"), "__init__", "BadTable.__init__", defArgs s_BadTable_init, defBody s_BadTable_init, defScope s_BadTable_init, [], []⟩
def d_BadForm_init : He.DefD := ⟨("BadForm", some "__init__"), "__init__", "BadForm.__init__", defArgs s_BadForm_init, defBody s_BadForm_init, defScope s_BadForm_init, [], []⟩
def d_BadBook_init : He.DefD := ⟨("BadBook", some "__init__"), "__init__", "BadBook.__init__", defArgs s_BadBook_init, defBody s_BadBook_init, defScope s_BadBook_init, [], []⟩
def d_BadName_init : He.DefD := ⟨("BadName", some "__init__"), "__init__", "BadName.__init__", defArgs s_BadName_init, defBody s_BadName_init, defScope s_BadName_init, [], []⟩
def d_BadText_init : He.DefD := ⟨("BadText", some "__init__"), "__init__", "BadText.__init__", defArgs s_BadText_init, defBody s_BadText_init, defScope s_BadText_init, [], []⟩
def d_NoPlace_init : He.DefD := ⟨("NoPlace", some "__init__"), "__init__", "NoPlace.__init__", defArgs s_NoPlace_init, defBody s_NoPlace_init, defScope s_NoPlace_init, [], []⟩
def d_NoName_init : He.DefD := ⟨("NoName", some "__init__"), "__init__", "NoName.__init__", defArgs s_NoName_init, defBody s_NoName_init, defScope s_NoName_init, [], []⟩
def d_TakenName_init : He.DefD := ⟨("TakenName", some "__init__"), "__init__", "TakenName.__init__", defArgs s_TakenName_init, defBody s_TakenName_init, defScope s_TakenName_init, [], []⟩
def d_Unlike_init : He.DefD := ⟨("Unlike", some "__init__"), "__init__", "Unlike.__init__", defArgs s_Unlike_init, defBody s_Unlike_init, defScope s_Unlike_init, [], []⟩
def d_NotThere_init : He.DefD := ⟨("NotThere", some "__init__"), "__init__", "NotThere.__init__", defArgs s_NotThere_init, defBody s_NotThere_init, defScope s_NotThere_init, [], []⟩
def d_TooMany_init : He.DefD := ⟨("TooMany", some "__init__"), "__init__", "TooMany.__init__", defArgs s_TooMany_init, defBody s_TooMany_init, defScope s_TooMany_init, [], []⟩
def d_NotKept_init : He.DefD := ⟨("NotKept", some "__init__"), "__init__", "NotKept.__init__", defArgs s_NotKept_init, defBody s_NotKept_init, defScope s_NotKept_init, [], []⟩
def d_Reader_init : He.DefD := ⟨("Reader", some "__init__"), "__init__", "Reader.__init__", defArgs s_Reader_init, defBody s_Reader_init, defScope s_Reader_init, [], []⟩
def d_Reader_wrong : He.DefD := ⟨("Reader", some "wrong"), "wrong", "Reader.wrong", defArgs s_Reader_wrong, defBody s_Reader_wrong, defScope s_Reader_wrong, [], []⟩
def d_Reader_peek : He.DefD := ⟨("Reader", some "peek"), "peek", "Reader.peek", defArgs s_Reader_peek, defBody s_Reader_peek, defScope s_Reader_peek, [], []⟩
def d_Reader_next_is : He.DefD := ⟨("Reader", some "next_is"), "next_is", "Reader.next_is", defArgs s_Reader_next_is, defBody s_Reader_next_is, defScope s_Reader_next_is, [], []⟩
def d_Reader_need : He.DefD := ⟨("Reader", some "need"), "need", "Reader.need", defArgs s_Reader_need, defBody s_Reader_need, defScope s_Reader_need, [], []⟩
def d_Reader_numeral : He.DefD := ⟨("Reader", some "numeral"), "numeral", "Reader.numeral", defArgs s_Reader_numeral, defBody s_Reader_numeral, defScope s_Reader_numeral, [], []⟩
def d_Reader_letter : He.DefD := ⟨("Reader", some "letter"), "letter", "Reader.letter", defArgs s_Reader_letter, defBody s_Reader_letter, defScope s_Reader_letter, [], []⟩
def d_Reader_end : He.DefD := ⟨("Reader", some "end"), "end", "Reader.end", defArgs s_Reader_end, defBody s_Reader_end, defScope s_Reader_end, [], []⟩
def d_Reader_term : He.DefD := ⟨("Reader", some "term"), "term", "Reader.term", defArgs s_Reader_term, defBody s_Reader_term, defScope s_Reader_term, [], []⟩
def d_Reader_terms : He.DefD := ⟨("Reader", some "terms"), "terms", "Reader.terms", defArgs s_Reader_terms, defBody s_Reader_terms, defScope s_Reader_terms, [], []⟩
def fnl : List He.DefD := [d__wall, d_is_integer, d_is_ratio, d_pair, d_opposite, d_sign_of, d_as_tuples, d_is_list, d_run_of, d_tokens_of, d_is_numeral, d_is_small, d_is_plain, d_ratio_text, d_text_of_value, d_value_text, d_ratio_by, d_value_by, d_value_in, d_value_of_text, d__law_pen, d__law_draw, d__law_pick, d__law_is, d__law_divisor, d__law_low, d__law_pair, d__law_times, d__law_sign, d__law_is_ratio, d__law_is_whole, d__law_number, d__law_wide, d__law_fault, d__law_kinds, d__law_more_kinds, d__law_drawn_value, d__law_tokens_of, d__law_text_of, d__law_is_figures, d__law_read, d__law_right, d__law_read_fault, d_law, d_BadNumber_init, d_BadRow_init, d_BadTable_init, d_BadForm_init, d_BadBook_init, d_BadName_init, d_BadText_init, d_NoPlace_init, d_NoName_init, d_TakenName_init, d_Unlike_init, d_NotThere_init, d_TooMany_init, d_NotKept_init, d_Reader_init, d_Reader_wrong, d_Reader_peek, d_Reader_next_is, d_Reader_need, d_Reader_numeral, d_Reader_letter, d_Reader_end, d_Reader_term, d_Reader_terms]
def fal : List He.Fa := [.glo "_wall", .glo "is_integer", .glo "is_ratio", .glo "pair", .glo "opposite", .glo "sign_of", .glo "as_tuples", .glo "is_list", .glo "run_of", .glo "tokens_of", .glo "is_numeral", .glo "is_small", .glo "is_plain", .glo "ratio_text", .glo "text_of_value", .glo "value_text", .glo "ratio_by", .glo "value_by", .glo "value_in", .glo "value_of_text", .glo "_law_pen", .glo "_law_draw", .glo "_law_pick", .glo "_law_is", .glo "_law_divisor", .glo "_law_low", .glo "_law_pair", .glo "_law_times", .glo "_law_sign", .glo "_law_is_ratio", .glo "_law_is_whole", .glo "_law_number", .glo "_law_wide", .glo "_law_fault", .glo "_law_kinds", .glo "_law_more_kinds", .glo "_law_drawn_value", .glo "_law_tokens_of", .glo "_law_text_of", .glo "_law_is_figures", .glo "_law_read", .glo "_law_right", .glo "_law_read_fault", .glo "law", .glo "GenusError", .glo "BadNumber", .glo "BadRow", .glo "BadTable", .glo "BadForm", .glo "BadBook", .glo "BadName", .glo "BadText", .glo "NoPlace", .glo "NoName", .glo "TakenName", .glo "Unlike", .glo "NotThere", .glo "TooMany", .glo "NotKept", .glo "NothingToUndo", .glo "NothingToRedo", .glo "Reader", .free "ValueError", .free "abs", .free "all", .free "bool", .free "enumerate", .free "int", .free "isinstance", .free "len", .free "list", .free "range", .free "repr", .free "str", .free "tuple", .str "FIGURES" "0123456789", .str "LETTERS" "abcdefghijklmnopqrstuvwxyz", .int "MOST_PLAIN" 400, .int "MOST_DEEP" 50, .cls "Reader", .mkr "Reader", .noat "Reader" "at", .noat "Reader" "deep", .noat "Reader" "line", .noat "Reader" "most", .noat "Reader" "tokens", .meth "Reader" "wrong", .meth "Reader" "peek", .meth "Reader" "next_is", .meth "Reader" "need", .meth "Reader" "numeral", .meth "Reader" "letter", .meth "Reader" "end", .meth "Reader" "term", .meth "Reader" "terms"]
def tfl : List He.Defn := [("_law_right", none), ("_law_read_fault", none), ("law", none)]
def excN : List (PySem.Str × List PySem.Str) := [("GenusError", []), ("BadNumber", ["what", "number"]), ("BadRow", ["what", "row"]), ("BadTable", ["what"]), ("BadForm", ["what"]), ("BadBook", ["what"]), ("BadName", ["name"]), ("BadText", ["line", "word"]), ("NoPlace", ["what", "index"]), ("NoName", ["name"]), ("TakenName", ["name"]), ("Unlike", ["what"]), ("NotThere", ["paper"]), ("TooMany", ["what", "many", "limit"]), ("NotKept", ["promise", "witness"]), ("NothingToUndo", []), ("NothingToRedo", [])]
def loose0 : List PySem.Str := ["_wall", "is_integer", "is_ratio", "pair", "opposite", "sign_of", "as_tuples", "is_list", "run_of", "tokens_of", "is_numeral", "is_small", "is_plain", "ratio_text", "text_of_value", "value_text", "ratio_by", "value_by", "value_in", "value_of_text", "_law_pen", "_law_draw", "_law_pick", "_law_is", "_law_divisor", "_law_low", "_law_pair", "_law_times", "_law_sign", "_law_is_ratio"]
def loose1 : List PySem.Str := ["_law_is_whole", "_law_number", "_law_wide", "_law_fault", "_law_kinds", "_law_more_kinds", "_law_drawn_value", "_law_tokens_of", "_law_text_of", "_law_is_figures", "_law_read", "_law_right", "_law_read_fault", "GenusError", "BadNumber", "BadRow", "BadTable", "BadForm", "BadBook", "BadName", "BadText", "NoPlace", "NoName", "TakenName", "Unlike", "NotThere", "TooMany", "NotKept", "NothingToUndo", "NothingToRedo"]
def loose2 : List PySem.Str := ["Reader", "FIGURES", "LETTERS", "MOST_PLAIN", "MOST_DEEP"]
def loose : List PySem.Str := loose0 ++ loose1 ++ loose2
abbrev lawAt : Nat := 71
end G

/-! # HD: the head: the top's run, in three looks -/
namespace G
open PySem PySem.Spec PyProof.Rows L2
/-- an exception class of the program over ValueError, by the whole of its object -/
def oexB (K : PySem.W.Frag) (C : Addr) : Bool := match K.lookup C with
  | some ⟨.type "type", _, .cls cd, sl⟩ => (match cd.mro, sl.toList with
    | .ref C' :: bm, [_, _, _, _, some (.builtin n), _] => C' == C && (n == "ValueError.__new__" && (!cd.hasDel && (cd.hasDict && PySem.HandSPX.refsVE bm)))
    | _, _ => false)
  | _ => false
/-- what isinstance and the raising ask of such a class, and of its __init__ -/
def exB (K : PySem.W.Frag) (x : PySem.Str) (fs : List PySem.Str) : Bool :=
  oexB K (He.ga K x) && (He.eqO (PySem.W.findIn K (.ref (He.ga K x)) "__setattr__") (some (some (.builtin "object.__setattr__"))) && (decide (PySem.W.subIn K (.ref (He.ga K x)) (.type "BaseException") = some true) &&
  (decide (PySem.W.typeIn K (.ref (He.ga K x)) = some (.type "type")) && (PySem.W.keepIn K (.ref (He.ga K x)) &&
  (He.eqO (PySem.W.findIn K (.ref (He.ga K x)) "__getattribute__") (some (some (.builtin "BaseException.__getattribute__"))) && (He.eqO (PySem.W.findIn K (.ref (He.ga K x)) "__getattr__") (some none) && (PySem.W.hasDictIn K (He.ga K x) &&
  (He.eqO (PySem.W.findIn K (.ref (He.ga K x)) "__class__") (some (some (.builtin "object.__class__"))) && (decide (PySem.W.mroIn K (He.ga K x) (.type "object") = some true) &&
  (fs.all fun f => He.eqO (PySem.W.findIn K (.ref (He.ga K x)) f) (some none)))))))))))
def clsB (K : PySem.W.Frag) : Bool := He.eqO (PySem.W.specialIn K (.builtin "object.__class__") "__get__") (some (some (.builtin "getset_descriptor.__get__"))) && decide (PySem.W.takesIn K (.builtin "object.__class__") = some true)
def exInit (K : PySem.W.Frag) (x : PySem.Str) : Bool := He.eqO (PySem.W.findIn K (.ref (He.ga K x)) "__init__") (some (some (.ref (He.ma K (He.ga K x) "__init__")))) && decide (PySem.W.typeIn K (.ref (He.ma K (He.ga K x) "__init__")) = some (.type "function"))
/-- isinstance and except, class against class: an exception's class at x, any of the program's at y; equal names, or y is the common base -/
def kitB2 (K : PySem.W.Frag) (x y : PySem.Str) : Bool := decide (PySem.W.kitOne K (.ref (He.ga K x)) (.ref (He.ga K y)) = some (x == y || y == "GenusError"))
def gcdB (K : PySem.W.Frag) : Bool := decide (PySem.W.nsIn K mainGlobals "gcd" = some (some (.builtin "math.gcd")))
/-- the tables of the defs that make lambdas are three -/
def distB (K : PySem.W.Frag) : Bool := decide ((tfl.map fun p => (He.cT K p).2).Nodup)
def exl (K : PySem.W.Frag) : Bool := distB K && ((excN.all fun p => exB K p.1 p.2) && (clsB K && (gcdB K && ((excN.all fun p => p.2.isEmpty || exInit K p.1) &&
  ((excN.all fun p => excN.all fun q => kitB2 K p.1 q.1) && (excN.all fun p => decide (PySem.W.kitOne K (.ref (He.ga K p.1)) (.type "ValueError") = some true) && decide (PySem.W.exmOne K (.ref (He.ga K p.1)) (.ref (He.ga K "GenusError")) = some true)))))))
abbrev hk : PySem.W.Hook := He.hookX 5 fal fnl [] tfl exl
def ob (s : PySem.W.SharedT) : He.AlX := He.obsX 5 fal fnl [] tfl exl (HandSHeadRun.getT s)
theorem ob_eq (s : PySem.W.SharedT) : ob s = hk.obs s.abs := He.obsX_eq (HandSHeadRun.getT_eq s)
abbrev qv : Program := PySem.W.view Rw.prog [0, lawAt]
noncomputable abbrev whole (w : World) := HandSHeadRun.wholeF (fun p => HandSHeadRun.stepQ (HandSHeadRun.denQ HandSHeadRun.tabQ) p w) HandSHeadRun.fenceQ 9000 Rw.prog
theorem run_looks (w : World) : (whole w).map (fun x => HandSHeadRun.looksF Rw.prog x.1.heap x.2.abs) = some true := by kernel_rfl
theorem run_seen (w : World) : (whole w).map (fun x => HandSHeadRun.seenQ qv loose (importedModules Rw.prog.main.body) (fun s => PySem.W.xlAt qv [] s && PySem.W.recOk Rw.toRowW.records s) x.2.abs) = some (PySem.W.openGood qv loose) := by kernel_rfl
theorem run_ob (w : World) : (whole w).map (fun x => ob x.2) = some (hk.val w) := by kernel_rfl
theorem map3 {α β γ δ : Type} {o : Option α} {f : α → β} {g : α → γ} {h : α → δ} {a : β} {b : γ} {c : δ} (h1 : o.map f = some a) (h2 : o.map g = some b) (h3 : o.map h = some c) : o.map (fun x => (f x, g x, h x)) = some (a, b, c) := by
  cases o with
  | none => cases h1
  | some x =>
    have e1 : f x = a := Option.some.inj h1
    have e2 : g x = b := Option.some.inj h2
    have e3 : h x = c := Option.some.inj h3
    show some (f x, g x, h x) = _
    rw [e1, e2, e3]
theorem run (w : World) : HandSHeadRun.RunEqI Rw qv hk ob 9000 loose w := map3 (run_looks w) (run_seen w) (run_ob w)
end G

/-! # P1: a calculus of what holds ahead of a piece of text, over the hand layer; data as PyData -/
namespace G
open PySem PySem.Spec PyProof.Rows L2
abbrev Ex := Evl.Ex
abbrev St := L2.St
/-! ### data that stands in a heap -/
mutual
/-- no list within -/
def imm : PyData → Bool
  | .list _ => false
  | .dict _ => false
  | .tuple ds => immAll ds
  | _ => true
def immAll : List PyData → Bool
  | [] => true
  | d :: ds => imm d && immAll ds
end
/-- tuples (and what is locked) are as they were -/
def ExI (H H' : Hp) : Prop := ∀ a o, H a = some o → (∀ xs, o ≠ .lst xs) → (∀ k, o ≠ .dK k) → (∀ C dx fs, o ≠ .ins C dx fs) → (∀ ps, o ≠ .tbl ps) → H' a = some o
theorem Ex.toI {H H' : Hp} (e : Ex H H') : ExI H H' := fun a o h _ _ _ _ => e a o h
theorem ExI.refl (H : Hp) : ExI H H := fun _ _ h _ _ _ _ => h
theorem ExI.trans {H H1 H2 : Hp} (a : ExI H H1) (b : ExI H1 H2) : ExI H H2 := fun x o h p q r t => b x o (a x o h p q r t) p q r t
theorem ExI.lst {H : Hp} {p : Addr} {xs : List V} {o : HO} (h : H p = some (.lst xs)) : ExI H (upd H p o) := fun a u e n _ _ _ => by
  rw [upd_ne (fun z => by rw [z, h] at e; exact n xs (Option.some.inj e).symm)]
  exact e
theorem ExI.dK {H : Hp} {p : Addr} {k : List (Key × V)} {o : HO} (h : H p = some (.dK k)) : ExI H (upd H p o) := fun a u e _ n _ _ => by
  rw [upd_ne (fun z => by rw [z, h] at e; exact n k (Option.some.inj e).symm)]
  exact e
theorem ExI.ins {H : Hp} {p C dx : Addr} {fs : List (Str × V)} {o : HO} (h : H p = some (.ins C dx fs)) : ExI H (upd H p o) := fun a u e _ _ n _ => by
  rw [upd_ne (fun z => by rw [z, h] at e; exact n C dx fs (Option.some.inj e).symm)]
  exact e
theorem ExI.new {H : Hp} {p : Addr} {o : HO} (h : H p = none) : ExI H (upd H p o) := Ex.toI (Evl.Ex.new h)
section
variable {K : PySem.W.Frag} {H H' : Hp}
theorem sqT_i {a : Addr} {xs : List V} (e : ExI H H') (h : SqT K H a xs) : SqT K H' a xs := by
  rcases h with (h | ⟨o, h⟩) | h
  · exact .inl (.inl (e a _ h (fun _ z => nomatch z) (fun _ z => nomatch z) (fun _ _ _ z => nomatch z) (fun _ z => nomatch z)))
  · exact .inl (.inr ⟨o, e a _ h (fun _ z => nomatch z) (fun _ z => nomatch z) (fun _ _ _ z => nomatch z) (fun _ z => nomatch z)⟩)
  · exact .inr h
mutual
theorem dp_i (e : ExI H H') : ∀ (d : PyData) (v : V), imm d = true → Dp K H v d → Dp K H' v d
  | .none, _, _, h => by cases h; exact .non
  | .bool _, _, _, h => by cases h; exact .bl _
  | .int _, _, _, h => by cases h; exact .int _
  | .str _, _, _, h => by cases h; exact .str _
  | .list _, _, i, _ => by simp [imm] at i
  | .dict _, _, i, _ => by simp [imm] at i
  | .tuple ds, _, i, h => by
    cases h with
    | tup s a => exact .tup (sqT_i e s) (dpAll_i e ds _ (by simpa [imm] using i) a)
theorem dpAll_i (e : ExI H H') : ∀ (ds : List PyData) (vs : List V), immAll ds = true → DpAll K H vs ds → DpAll K H' vs ds
  | [], _, _, h => by cases h; exact .nil
  | d :: ds, _, i, h => by
    have i2 : imm d = true ∧ immAll ds = true := by simpa [immAll] using i
    cases h with
    | cons x y => exact .cons (dp_i e d _ i2.1 x) (dpAll_i e ds _ i2.2 y)
end
mutual
theorem dp_mono (e : Ex H H') : ∀ (d : PyData) (v : V), Dp K H v d → Dp K H' v d
  | .none, _, h => by cases h; exact .non
  | .bool _, _, h => by cases h; exact .bl _
  | .int _, _, h => by cases h; exact .int _
  | .str _, _, h => by cases h; exact .str _
  | .dict _, _, h => by cases h
  | .list ds, _, h => by
    cases h with
    | lst s a => exact .lst (Evl.ex_l e s) (dpAll_mono e ds _ a)
  | .tuple ds, _, h => by
    cases h with
    | tup s a => exact .tup (Evl.ex_t e s) (dpAll_mono e ds _ a)
theorem dpAll_mono (e : Ex H H') : ∀ (ds : List PyData) (vs : List V), DpAll K H vs ds → DpAll K H' vs ds
  | [], _, h => by cases h; exact .nil
  | d :: ds, _, h => by
    cases h with
    | cons x y => exact .cons (dp_mono e d _ x) (dpAll_mono e ds _ y)
end
theorem _root_.L2.Dp.up {v : V} {d : PyData} (h : Dp K H v d) (e : Ex H H') : Dp K H' v d := dp_mono e d v h
theorem _root_.L2.DpAll.up {vs : List V} {ds : List PyData} (h : DpAll K H vs ds) (e : Ex H H') : DpAll K H' vs ds := dpAll_mono e ds vs h
theorem _root_.L2.Dp.upI {v : V} {d : PyData} (h : Dp K H v d) (i : imm d = true) (e : ExI H H') : Dp K H' v d := dp_i e d v i h
theorem _root_.L2.DpAll.upI {vs : List V} {ds : List PyData} (h : DpAll K H vs ds) (i : immAll ds = true) (e : ExI H H') : DpAll K H' vs ds := dpAll_i e ds vs i h
theorem _root_.L2.Dp.int_v {v : V} {i : Int} (h : Dp K H v (.int i)) : v = .int i := by cases h; rfl
theorem _root_.L2.Dp.str_v {v : V} {x : Str} (h : Dp K H v (.str x)) : v = .str x := by cases h; rfl
theorem _root_.L2.Dp.bl_v {v : V} {b : Bool} (h : Dp K H v (.bool b)) : v = .bl b := by cases h; rfl
theorem _root_.L2.Dp.non_v {v : V} (h : Dp K H v .none) : v = .non := by cases h; rfl
theorem _root_.L2.Dp.tup_v {v : V} {ds : List PyData} (h : Dp K H v (.tuple ds)) : ∃ a xs, v = .ref a ∧ SqT K H a xs ∧ DpAll K H xs ds := by
  cases h with
  | tup s a => exact ⟨_, _, rfl, s, a⟩
theorem _root_.L2.Dp.lst_v {v : V} {ds : List PyData} (h : Dp K H v (.list ds)) : ∃ a xs, v = .ref a ∧ SqL K H a xs ∧ DpAll K H xs ds := by
  cases h with
  | lst s a => exact ⟨_, _, rfl, s, a⟩
theorem _root_.L2.DpAll.len {vs : List V} {ds : List PyData} (h : DpAll K H vs ds) : vs.length = ds.length := by
  induction ds generalizing vs with
  | nil => cases h; rfl
  | cons d ds ih =>
    cases h with
    | cons x y => rw [List.length_cons, List.length_cons, ih y]
theorem _root_.L2.DpAll.at_ {vs : List V} {ds : List PyData} (h : DpAll K H vs ds) {i : Nat} {d : PyData} (e : ds[i]? = some d) : ∃ v, vs[i]? = some v ∧ Dp K H v d := by
  induction ds generalizing vs i with
  | nil => simp at e
  | cons x xs ih =>
    cases h with
    | cons a b =>
      cases i with
      | zero =>
        have e2 : x = d := by simpa using e
        subst e2
        exact ⟨_, rfl, a⟩
      | succ i =>
        obtain ⟨v, h1, h2⟩ := ih b (i := i) (by simpa using e)
        exact ⟨v, by simpa using h1, h2⟩
theorem _root_.L2.DpAll.app {vs us : List V} {ds es : List PyData} (h : DpAll K H vs ds) (k : DpAll K H us es) : DpAll K H (vs ++ us) (ds ++ es) := by
  induction ds generalizing vs with
  | nil => cases h; exact k
  | cons d ds ih =>
    cases h with
    | cons x y => exact .cons x (ih y)
theorem _root_.L2.DpAll.one {v : V} {d : PyData} (h : Dp K H v d) : DpAll K H [v] [d] := .cons h .nil
theorem _root_.L2.DpAll.take {vs : List V} {ds : List PyData} (h : DpAll K H vs ds) (n : Nat) : DpAll K H (vs.take n) (ds.take n) := by
  induction ds generalizing vs n with
  | nil => cases h; simpa using .nil
  | cons d ds ih =>
    cases h with
    | cons x y =>
      cases n with
      | zero => exact .nil
      | succ n => exact .cons x (ih y n)
theorem _root_.L2.DpAll.drop {vs : List V} {ds : List PyData} (h : DpAll K H vs ds) (n : Nat) : DpAll K H (vs.drop n) (ds.drop n) := by
  induction ds generalizing vs n with
  | nil => cases h; simpa using .nil
  | cons d ds ih =>
    cases h with
    | cons x y =>
      cases n with
      | zero => exact .cons x y
      | succ n => exact ih y n
/-- texts in a row -/
def strD (xs : List Str) : List PyData := xs.map .str
theorem _root_.L2.DpAll.strD_v {vs : List V} {xs : List Str} (h : DpAll K H vs (strD xs)) : vs = xs.map V.str := by
  induction xs generalizing vs with
  | nil => cases h; rfl
  | cons x xs ih =>
    cases h with
    | cons a b => rw [ih b, a.str_v]; rfl
theorem _root_.L2.DpAll.of_strD (xs : List Str) : DpAll K H (xs.map V.str) (strD xs) := by
  induction xs with
  | nil => exact .nil
  | cons x xs ih => exact .cons (.str x) ih
def intD (xs : List Int) : List PyData := xs.map .int
theorem _root_.L2.DpAll.intD_v {vs : List V} {xs : List Int} (h : DpAll K H vs (intD xs)) : vs = xs.map V.int := by
  induction xs generalizing vs with
  | nil => cases h; rfl
  | cons x xs ih =>
    cases h with
    | cons a b => rw [ih b, a.int_v]; rfl
theorem _root_.L2.DpAll.of_intD (xs : List Int) : DpAll K H (xs.map V.int) (intD xs) := by
  induction xs with
  | nil => exact .nil
  | cons x xs ih => exact .cons (.int x) ih
def blD (xs : List Bool) : List PyData := xs.map .bool
theorem _root_.L2.DpAll.blD_v {vs : List V} {xs : List Bool} (h : DpAll K H vs (blD xs)) : vs = xs.map V.bl := by
  induction xs generalizing vs with
  | nil => cases h; rfl
  | cons x xs ih =>
    cases h with
    | cons a b => rw [ih b, a.bl_v]; rfl
theorem immAll_strD (xs : List Str) : immAll (strD xs) = true := by
  induction xs with
  | nil => rfl
  | cons x xs ih => simp only [strD, List.map_cons, immAll, imm]; exact ih
theorem immAll_blD (xs : List Bool) : immAll (blD xs) = true := by
  induction xs with
  | nil => rfl
  | cons x xs ih => simp only [blD, List.map_cons, immAll, imm]; exact ih
theorem immAll_intD (xs : List Int) : immAll (intD xs) = true := by
  induction xs with
  | nil => rfl
  | cons x xs ih => simp only [intD, List.map_cons, immAll, imm]; exact ih
theorem immAll_mem {ds : List PyData} (h : ∀ d ∈ ds, imm d = true) : immAll ds = true := by
  induction ds with
  | nil => rfl
  | cons x xs ih => simp only [immAll, Bool.and_eq_true]; exact ⟨h x (List.mem_cons_self ..), ih fun d hd => h d (List.mem_cons_of_mem _ hd)⟩
theorem imm_mem {ds : List PyData} (h : immAll ds = true) : ∀ d ∈ ds, imm d = true := by
  induction ds with
  | nil => intro d hd; cases hd
  | cons x xs ih =>
    simp only [immAll, Bool.and_eq_true] at h
    intro d hd
    rcases List.mem_cons.mp hd with e | e
    · rw [e]; exact h.1
    · exact ih h.2 d e
theorem immAll_app {ds es : List PyData} (h : immAll ds = true) (k : immAll es = true) : immAll (ds ++ es) = true := immAll_mem fun d hd => (List.mem_append.mp hd).elim (imm_mem h d) (imm_mem k d)
end
/-! ### what holds ahead of an expression, a test, arguments, a block -/
def WE (X : Cx) (e : Expr) (σ : St) (H : Hp) (Q : VK) : Prop := ∀ (pins : List (Addr × Obj)) (s : Shared), Inv X pins σ H s → wpAny (model X.prog X.w) X.A (eval e X.env) (EP X pins σ Q) X.xe s
def WT (X : Cx) (e : Expr) (σ : St) (H : Hp) (Q : Bool → Hp → Prop) : Prop := ∀ (pins : List (Addr × Obj)) (s : Shared), Inv X pins σ H s → wpAny (model X.prog X.w) X.A (isTrue e X.env (eval e X.env)) (TP X pins σ Q) X.xe s
def WA (X : Cx) (es : List Expr) (σ : St) (H : Hp) (Q : List V → Hp → Prop) : Prop := ∀ (pos : Pos) (pins : List (Addr × Obj)) (s : Shared), Inv X pins σ H s → wpAny (model X.prog X.w) X.A (spliced (backTo pos (starEach es X.env))) (AP X pins σ Q) X.xe s
def WS (X : Cx) (sts : List Stmt) (D : Ends) (σ : St) (H : Hp) : Prop := ∀ (pins : List (Addr × Obj)) (s : Shared), Inv X pins σ H s → wpAny (model X.prog X.w) X.A (execs sts X.env) (SP X pins D) X.xe s
def W1 (X : Cx) (st : Stmt) (D : Ends) (σ : St) (H : Hp) : Prop := ∀ (pins : List (Addr × Obj)) (s : Shared), Inv X pins σ H s → wpAny (model X.prog X.w) X.A (exec st X.env) (SP X pins D) X.xe s
section
variable {X : Cx} {e : Expr} {es : List Expr} {st : Stmt} {sts : List Stmt} {σ : St} {H : Hp} {Q Q' : VK} {D D' : Ends}
theorem WE.pe : PE X e (WE X e) := ⟨fun pins s _ _ _ I h => h pins s I⟩
theorem WT.pt : PT X e (WT X e) := ⟨fun pins s _ _ _ I h => h pins s I⟩
theorem WA.pa : PA X es (WA X es) := ⟨fun pos pins s _ _ _ I h => h pos pins s I⟩
theorem WS.ps : PSs X sts (WS X sts) := ⟨fun pins s _ _ _ I h => h pins s I⟩
theorem W1.ps : PS X st (W1 X st) := ⟨fun pins s _ _ _ I h => h pins s I⟩
theorem WE.of {t : TE} (h : PE X e t) (q : t σ H Q) : WE X e σ H Q := fun pins s I => h.run pins s σ H Q I q
theorem WT.of {t : TT} {Q : Bool → Hp → Prop} (h : PT X e t) (q : t σ H Q) : WT X e σ H Q := fun pins s I => h.run pins s σ H Q I q
theorem WA.of {t : TA} {Q : List V → Hp → Prop} (h : PA X es t) (q : t σ H Q) : WA X es σ H Q := fun pos pins s I => h.run pos pins s σ H Q I q
theorem WS.of {t : TS} (h : PSs X sts t) (q : t D σ H) : WS X sts D σ H := fun pins s I => h.run pins s σ H D I q
theorem W1.of {t : TS} (h : PS X st t) (q : t D σ H) : W1 X st D σ H := fun pins s I => h.run pins s σ H D I q
theorem WE.mono (h : WE X e σ H Q) (k : ∀ v H', Q v H' → Q' v H') : WE X e σ H Q' := fun pins s I => thn (h pins s I) fun _ _ ⟨v, H', J, r, q⟩ => ⟨v, H', J, r, k v H' q⟩
theorem WT.mono {Q Q' : Bool → Hp → Prop} (h : WT X e σ H Q) (k : ∀ b H', Q b H' → Q' b H') : WT X e σ H Q' := fun pins s I => thn (h pins s I) fun _ _ ⟨H', J, q⟩ => ⟨H', J, k _ H' q⟩
theorem WA.mono {Q Q' : List V → Hp → Prop} (h : WA X es σ H Q) (k : ∀ vs H', Q vs H' → Q' vs H') : WA X es σ H Q' := fun pos pins s I => thn (h pos pins s I) fun _ _ ⟨vs, H', J, r, q⟩ => ⟨vs, H', J, r, k vs H' q⟩
/-- ends: every way out of the one is a way out of the other -/
structure Le (D D' : Ends) : Prop where
  nx : ∀ σ H, D.nx σ H → D'.nx σ H
  rt : ∀ v H, D.rt v H → D'.rt v H
  bk : ∀ σ H, D.bk σ H → D'.bk σ H
  ct : ∀ σ H, D.ct σ H → D'.ct σ H
theorem WS.mono (h : WS X sts D σ H) (k : Le D D') : WS X sts D' σ H := fun pins s I => thn (h pins s I) fun f _ q => by
  cases f with
  | next => obtain ⟨a, b, c, d⟩ := q; exact ⟨a, b, c, k.nx _ _ d⟩
  | brk => obtain ⟨a, b, c, d⟩ := q; exact ⟨a, b, c, k.bk _ _ d⟩
  | cont => obtain ⟨a, b, c, d⟩ := q; exact ⟨a, b, c, k.ct _ _ d⟩
  | ret u => obtain ⟨v, a, b, c, r, d⟩ := q; exact ⟨v, a, b, c, r, k.rt _ _ d⟩
/-- the abstract heap may be told otherwise where the state says the same -/
theorem WE.non {pos j} : Q .non H → WE X (.Constant .none j pos) σ H Q := fun q => .of pe_non q
end
end G

/-! # P2: expressions -/
namespace G
open PySem PySem.Spec PyProof.Rows L2
section
variable {X : Cx} {e a b c : Expr} {es rest : List Expr} {σ : St} {H : Hp} {Q : VK} {pos p q : Pos} {x : Str}
/-- what an expression is worth as data, whatever comes to the heap besides -/
def VD (X : Cx) (e : Expr) (σ : St) (H : Hp) (d : PyData) : Prop := ∀ H1, Ex H H1 → WE X e σ H1 fun v H2 => Ex H1 H2 ∧ Dp X.K H2 v d
/-- the same of a new or local list that may be changed -/
def DpL (K : PySem.W.Frag) (H : Hp) (v : V) (ds : List PyData) : Prop := ∃ l xs, v = .ref l ∧ H l = some (.lst xs) ∧ DpAll K H xs ds
def VL (X : Cx) (e : Expr) (σ : St) (H : Hp) (ds : List PyData) : Prop := ∀ H1, Ex H H1 → WE X e σ H1 fun v H2 => Ex H1 H2 ∧ DpL X.K H2 v ds
def VT (X : Cx) (e : Expr) (σ : St) (H : Hp) (b : Bool) : Prop := ∀ H1, Ex H H1 → WT X e σ H1 fun c H2 => Ex H1 H2 ∧ c = b
def VA (X : Cx) (es : List Expr) (σ : St) (H : Hp) (ds : List PyData) : Prop := ∀ H1, Ex H H1 → WA X es σ H1 fun vs H2 => Ex H1 H2 ∧ DpAll X.K H2 vs ds
theorem DpL.dp {K : PySem.W.Frag} {v : V} {ds : List PyData} (h : DpL K H v ds) : Dp K H v (.list ds) := by
  obtain ⟨l, xs, rfl, h1, h2⟩ := h
  exact .lst (SqL.of h1) h2
theorem DpL.up {K : PySem.W.Frag} {H' : Hp} {v : V} {ds : List PyData} (h : DpL K H v ds) (e : Ex H H') : DpL K H' v ds := by
  obtain ⟨l, xs, rfl, h1, h2⟩ := h
  exact ⟨l, xs, rfl, e _ _ h1, h2.up e⟩
theorem VL.vd {ds : List PyData} (h : VL X e σ H ds) : VD X e σ H (.list ds) := fun H1 e1 => (h H1 e1).mono fun v H2 ⟨a, b⟩ => ⟨a, b.dp⟩
theorem VD.at_ {d : PyData} {H' : Hp} (h : VD X e σ H d) (k : Ex H H') : VD X e σ H' d := fun H1 e1 => h H1 (Evl.Ex.trans k e1)
theorem VL.at_ {d : List PyData} {H' : Hp} (h : VL X e σ H d) (k : Ex H H') : VL X e σ H' d := fun H1 e1 => h H1 (Evl.Ex.trans k e1)
theorem VT.at_ {d : Bool} {H' : Hp} (h : VT X e σ H d) (k : Ex H H') : VT X e σ H' d := fun H1 e1 => h H1 (Evl.Ex.trans k e1)
theorem VA.at_ {d : List PyData} {H' : Hp} (h : VA X es σ H d) (k : Ex H H') : VA X es σ H' d := fun H1 e1 => h H1 (Evl.Ex.trans k e1)
theorem VD.use {d : PyData} (h : VD X e σ H d) (k : ∀ v H', Ex H H' → Dp X.K H' v d → Q v H') : WE X e σ H Q := (h H (Evl.Ex.refl H)).mono fun v H' ⟨a, b⟩ => k v H' a b
theorem VL.use {d : List PyData} (h : VL X e σ H d) (k : ∀ v H', Ex H H' → DpL X.K H' v d → Q v H') : WE X e σ H Q := (h H (Evl.Ex.refl H)).mono fun v H' ⟨a, b⟩ => k v H' a b
theorem VT.use {d : Bool} {Q : Bool → Hp → Prop} (h : VT X e σ H d) (k : ∀ H', Ex H H' → Q d H') : WT X e σ H Q := (h H (Evl.Ex.refl H)).mono fun v H' ⟨a, b⟩ => by rw [b]; exact k H' a
theorem VA.use {d : List PyData} {Q : List V → Hp → Prop} (h : VA X es σ H d) (k : ∀ vs H', Ex H H' → DpAll X.K H' vs d → Q vs H') : WA X es σ H Q := (h H (Evl.Ex.refl H)).mono fun v H' ⟨a, b⟩ => k v H' a b
theorem VD.to {d d' : PyData} (h : VD X e σ H d) (k : d = d') : VD X e σ H d' := k ▸ h
theorem VT.to {d d' : Bool} (h : VT X e σ H d) (k : d = d') : VT X e σ H d' := k ▸ h
theorem VL.to {d d' : List PyData} (h : VL X e σ H d) (k : d = d') : VL X e σ H d' := k ▸ h
/-! names, constants -/
theorem we_var (i : Nat) {v : V} (h : σ[i]? = some (some v)) (k : Q v H) (hN : X.N[i]? = some x := by rfl) (hv : Vis X.env.scope x := by first | exact Or.inl rfl | exact Or.inr (Or.inl rfl) | exact Or.inr (Or.inr rfl))
    (hd : (x == ("__debug__" : Str)) = false := by decide) (hcd : (x == ("__classdict__" : Str)) = false := by decide) : WE X (.Name x pos) σ H Q := .of (pe_var hN hv hd hcd) ⟨v, h, k⟩
theorem vd_var (i : Nat) {v : V} {d : PyData} (h : σ[i]? = some (some v)) (k : Dp X.K H v d) (hN : X.N[i]? = some x := by rfl) (hv : Vis X.env.scope x := by first | exact Or.inl rfl | exact Or.inr (Or.inl rfl) | exact Or.inr (Or.inr rfl))
    (hd : (x == ("__debug__" : Str)) = false := by decide) (hcd : (x == ("__classdict__" : Str)) = false := by decide) : VD X (.Name x pos) σ H d := fun H1 e1 => we_var i h ⟨Evl.Ex.refl H1, k.up e1⟩ hN hv hd hcd
theorem vl_var (i : Nat) {l : Addr} {xs : List V} {ds : List PyData} (h : σ[i]? = some (some (.ref l))) (k : H l = some (.lst xs)) (k2 : DpAll X.K H xs ds) (hN : X.N[i]? = some x := by rfl) (hv : Vis X.env.scope x := by first | exact Or.inl rfl | exact Or.inr (Or.inl rfl) | exact Or.inr (Or.inr rfl))
    (hd : (x == ("__debug__" : Str)) = false := by decide) (hcd : (x == ("__classdict__" : Str)) = false := by decide) : VL X (.Name x pos) σ H ds := fun H1 e1 => we_var i h ⟨Evl.Ex.refl H1, l, xs, rfl, e1 _ _ k, k2.up e1⟩ hN hv hd hcd
theorem vd_int {i : Int} {j} : VD X (.Constant (.int i) j pos) σ H (.int i) := fun H1 _ => .of pe_int ⟨Evl.Ex.refl H1, .int i⟩
theorem vd_str {s : Str} {j} : VD X (.Constant (.str s) j pos) σ H (.str s) := fun H1 _ => .of pe_str ⟨Evl.Ex.refl H1, .str s⟩
theorem vd_bl {t : Bool} {j} : VD X (.Constant (.bool t) j pos) σ H (.bool t) := fun H1 _ => .of pe_bl ⟨Evl.Ex.refl H1, .bl t⟩
theorem vd_non {j} : VD X (.Constant .none j pos) σ H .none := fun H1 _ => .of pe_non ⟨Evl.Ex.refl H1, .non⟩
/-- a module's constant -/
theorem vd_gint {i : Int} {t : Tok} (hm : X.mg x = some (.int i t)) (hg : Gl X x := by rfl) (hd : (x == ("__debug__" : Str)) = false := by decide) : VD X (.Name x pos) σ H (.int i) := fun H1 _ => .of (pe_glob (v := .int i) hg hm ⟨t, rfl⟩ hd) ⟨Evl.Ex.refl H1, .int i⟩
theorem vd_gstr {i : Str} {t : Tok} (hm : X.mg x = some (.str i t)) (hg : Gl X x := by rfl) (hd : (x == ("__debug__" : Str)) = false := by decide) : VD X (.Name x pos) σ H (.str i) := fun H1 _ => .of (pe_glob (v := .str i) hg hm ⟨t, rfl⟩ hd) ⟨Evl.Ex.refl H1, .str i⟩
/-- a class as a value: a built-in one, or one of the program's -/
theorem we_ty {n : String} (hm : X.mg x = none) (hv : bootBuiltins x = some (.type n)) (k : Q (.ty n) H) (hg : Gl X x := by rfl) (hn : x ≠ "__name__" := by decide) (hd : (x == ("__debug__" : Str)) = false := by decide) : WE X (.Name x pos) σ H Q :=
  .of (pe_bltn (v := .ty n) hg hm hv rfl hn hd) k
theorem we_cls {C : Addr} (hm : X.mg x = some (.ref C)) (k : Q (.ref C) H) (hg : Gl X x := by rfl) (hd : (x == ("__debug__" : Str)) = false := by decide) : WE X (.Name x pos) σ H Q := .of (pe_glob (v := .ref C) hg hm rfl hd) k
/-! operators -/
theorem we_op {op : Operator} {r : R2} (ho : OpR X (binaryOp op) r) (h : WE X a σ H fun v H1 => WE X b σ H1 fun u H2 => r v u H2 Q) : WE X (.BinOp a op b pos) σ H Q := .of (pe_op ho WE.pe WE.pe) h
theorem vd_op {op : Operator} {r : R2} {d f g : PyData} (ho : OpR X (binaryOp op) r) (ha : VD X a σ H d) (hb : VD X b σ H f) (h : ∀ v u H2 Q, Dp X.K H2 v d → Dp X.K H2 u f → (∀ w H3, Ex H2 H3 → Dp X.K H3 w g → Q w H3) → r v u H2 Q) : VD X (.BinOp a op b pos) σ H g :=
  fun H1 e1 => we_op ho ((ha H1 e1).mono fun v H2 ⟨e2, dv⟩ => (hb H2 (Evl.Ex.trans e1 e2)).mono fun u H3 ⟨e3, du⟩ => h v u H3 _ (dv.up e3) du fun w H4 e4 dw => ⟨Evl.Ex.trans e2 (Evl.Ex.trans e3 e4), dw⟩)
theorem vd_rI {op : Operator} {C : Int → Int → Prop} {g : Int → Int → Int} {i j : Int} (ho : OpR X (binaryOp op) (rI C fun i j => .int (g i j))) (ha : VD X a σ H (.int i)) (hb : VD X b σ H (.int j)) (hc : C i j) : VD X (.BinOp a op b pos) σ H (.int (g i j)) :=
  vd_op ho ha hb fun v u H2 Q dv du k => ⟨i, j, dv.int_v, du.int_v, hc, k _ _ (Evl.Ex.refl _) (.int _)⟩
theorem vd_rI0 {op : Operator} {g : Int → Int → Int} {i j : Int} (ho : OpR X (binaryOp op) (rI0 fun i j => .int (g i j))) (ha : VD X a σ H (.int i)) (hb : VD X b σ H (.int j)) : VD X (.BinOp a op b pos) σ H (.int (g i j)) :=
  vd_op ho ha hb fun v u H2 Q dv du k => ⟨i, j, dv.int_v, du.int_v, k _ _ (Evl.Ex.refl _) (.int _)⟩
theorem vd_add {i j : Int} (ha : VD X a σ H (.int i)) (hb : VD X b σ H (.int j)) : VD X (.BinOp a .Add b pos) σ H (.int (i + j)) := vd_rI0 (g := fun i j => i + j) op_add ha hb
theorem vd_sub {i j : Int} (ha : VD X a σ H (.int i)) (hb : VD X b σ H (.int j)) : VD X (.BinOp a .Sub b pos) σ H (.int (i - j)) := vd_rI0 (g := fun i j => i - j) op_sub ha hb
theorem vd_mul {i j : Int} (ha : VD X a σ H (.int i)) (hb : VD X b σ H (.int j)) (hc : CMul i j) : VD X (.BinOp a .Mult b pos) σ H (.int (i * j)) := vd_rI (g := fun i j => i * j) op_mul ha hb hc
theorem vd_mulW {i j : Int} (ha : VD X a σ H (.int i)) (hb : VD X b σ H (.int j)) (hc : CMulW i j) : VD X (.BinOp a .Mult b pos) σ H (.int (i * j)) := vd_rI (g := fun i j => i * j) op_mulW ha hb hc
theorem vd_div {i j : Int} (ha : VD X a σ H (.int i)) (hb : VD X b σ H (.int j)) (hc : CDivW i j) : VD X (.BinOp a .FloorDiv b pos) σ H (.int (i / j)) := vd_rI (g := fun i j => i / j) op_fdivW ha hb hc
theorem vd_mod {i j : Int} (ha : VD X a σ H (.int i)) (hb : VD X b σ H (.int j)) (hc : 0 < j) : VD X (.BinOp a .Mod b pos) σ H (.int (i % j)) := vd_rI (g := fun i j => i % j) op_mod ha hb hc
def CPowW (i j : Int) : Prop := 0 ≤ j ∧ (Builtin.Int.intBits i : Int) * j ≤ 2 ^ 27
theorem op_powW : OpR X (binaryOp .Pow) (rI CPowW fun i j => .int (i ^ j.toNat)) := opI fun _ _ _ _ _ _ _ hc k => pow_int hc.1 hc.2 k
theorem vd_pow {i j : Int} (ha : VD X a σ H (.int i)) (hb : VD X b σ H (.int j)) (hc : CPowW i j) : VD X (.BinOp a .Pow b pos) σ H (.int (i ^ j.toNat)) := vd_rI (g := fun i j => i ^ j.toNat) op_powW ha hb hc
theorem vd_neg {i : Int} (ha : VD X a σ H (.int i)) : VD X (.UnaryOp .USub a pos) σ H (.int (-i)) := fun H1 e1 => .of (pe_un un_neg WE.pe) ((ha H1 e1).mono fun v H2 ⟨e2, dv⟩ => ⟨i, dv.int_v, e2, .int _⟩)
theorem vd_addS {i j : Str} (ha : VD X a σ H (.str i)) (hb : VD X b σ H (.str j)) (hz : i.length + j.length ≤ sizeLine) : VD X (.BinOp a .Add b pos) σ H (.str (i ++ j)) :=
  vd_op op_add_str ha hb fun v u H2 Q dv du k => ⟨i, j, dv.str_v, du.str_v, hz, k _ _ (Evl.Ex.refl _) (.str _)⟩
theorem vl_cat {ds fs : List PyData} (ha : VL X a σ H ds) (hb : VL X b σ H fs) (hz : ds.length + fs.length ≤ sizeLine) : VL X (.BinOp a .Add b pos) σ H (ds ++ fs) :=
  fun H1 e1 => we_op op_cat ((ha H1 e1).mono fun v H2 ⟨e2, l, xs, ev, hl, dx⟩ => (hb H2 (Evl.Ex.trans e1 e2)).mono fun u H3 ⟨e3, m, ys, eu, hm, dy⟩ =>
    ⟨l, m, xs, ys, ev, eu, e3 _ _ hl, hm, by rw [dx.len, dy.len]; exact hz, fun n hn => ⟨Evl.Ex.trans e2 (Evl.Ex.trans e3 (Evl.Ex.new hn)), n, _, rfl, upd_same, ((dx.up e3).app dy).up (Evl.Ex.new hn)⟩⟩)
/-! comparisons -/
theorem we_cmp {op : CmpOp} {r : R2} (ho : OpR X (compareOp op) r) (hm : behindInMarks op b = false) (h : WE X a σ H fun v H1 => WE X b σ H1 fun u H2 => r v u H2 Q) : WE X (.Compare a [op] [b] pos) σ H Q := .of (pe_cmpR ho WE.pe WE.pe hm) h
theorem wt_cmp {op : CmpOp} {r : R2} {Q : Bool → Hp → Prop} (ho : OpR X (compareOp op) r) (hm : behindInMarks op b = false) (h : WE X a σ H fun v H1 => WE X b σ H1 fun u H2 => r v u H2 fun z H3 => ∃ k, z = .bl k ∧ Q k H3) : WT X (.Compare a [op] [b] pos) σ H Q := .of (pt_cmpR ho WE.pe WE.pe hm) h
/-- a comparison of what is known: r says k -/
def Says (X : Cx) (r : R2) (d f : PyData) (k : Bool) : Prop := ∀ v u H2 (Q : VK), Dp X.K H2 v d → Dp X.K H2 u f → (∀ H3, Ex H2 H3 → Q (.bl k) H3) → r v u H2 Q
theorem vd_cmp {op : CmpOp} {r : R2} {d f : PyData} {k : Bool} (ho : OpR X (compareOp op) r) (hm : behindInMarks op b = false) (ha : VD X a σ H d) (hb : VD X b σ H f) (h : Says X r d f k) : VD X (.Compare a [op] [b] pos) σ H (.bool k) :=
  fun H1 e1 => we_cmp ho hm ((ha H1 e1).mono fun v H2 ⟨e2, dv⟩ => (hb H2 (Evl.Ex.trans e1 e2)).mono fun u H3 ⟨e3, du⟩ => h v u H3 _ (dv.up e3) du fun H4 e4 => ⟨Evl.Ex.trans e2 (Evl.Ex.trans e3 e4), .bl k⟩)
theorem vt_cmp {op : CmpOp} {r : R2} {d f : PyData} {k : Bool} (ho : OpR X (compareOp op) r) (hm : behindInMarks op b = false) (ha : VD X a σ H d) (hb : VD X b σ H f) (h : Says X r d f k) : VT X (.Compare a [op] [b] pos) σ H k :=
  fun H1 e1 => wt_cmp ho hm ((ha H1 e1).mono fun v H2 ⟨e2, dv⟩ => (hb H2 (Evl.Ex.trans e1 e2)).mono fun u H3 ⟨e3, du⟩ => h v u H3 _ (dv.up e3) du fun H4 e4 => ⟨k, rfl, Evl.Ex.trans e2 (Evl.Ex.trans e3 e4), rfl⟩)
theorem says_I {g : Int → Int → Bool} {i j : Int} : Says X (rI0 fun i j => .bl (g i j)) (.int i) (.int j) (g i j) := fun v u H2 Q dv du k => ⟨i, j, dv.int_v, du.int_v, k H2 (Evl.Ex.refl H2)⟩
theorem says_lt {i j : Int} : Says X (rI0 fun i j => .bl (decide (i < j))) (.int i) (.int j) (decide (i < j)) := says_I (g := fun i j => decide (i < j))
theorem says_le {i j : Int} : Says X (rI0 fun i j => .bl (decide (i ≤ j))) (.int i) (.int j) (decide (i ≤ j)) := says_I (g := fun i j => decide (i ≤ j))
theorem says_gt {i j : Int} : Says X (rI0 fun i j => .bl (decide (j < i))) (.int i) (.int j) (decide (j < i)) := says_I (g := fun i j => decide (j < i))
theorem says_ge {i j : Int} : Says X (rI0 fun i j => .bl (decide (j ≤ i))) (.int i) (.int j) (decide (j ≤ i)) := says_I (g := fun i j => decide (j ≤ i))
theorem says_eqI {i j : Int} : Says X rEq (.int i) (.int j) (decide (i = j)) := fun v u H2 Q dv du k => by
  rw [dv.int_v, du.int_v]
  refine ⟨rfl, ?_⟩
  have z := k H2 (Evl.Ex.refl H2)
  rw [dec_int, Bool.beq_eq_decide_eq]
  exact z
theorem says_neI {i j : Int} : Says X rNe (.int i) (.int j) (!decide (i = j)) := fun v u H2 Q dv du k => by
  rw [dv.int_v, du.int_v]
  refine ⟨rfl, ?_⟩
  have z := k H2 (Evl.Ex.refl H2)
  rw [dec_int, Bool.beq_eq_decide_eq]
  exact z
theorem says_eqS {i j : Str} : Says X rEq (.str i) (.str j) (decide (i = j)) := fun v u H2 Q dv du k => by
  rw [dv.str_v, du.str_v]
  refine ⟨rfl, ?_⟩
  have z := k H2 (Evl.Ex.refl H2)
  rw [dec_str, Bool.beq_eq_decide_eq]
  exact z
theorem says_neS {i j : Str} : Says X rNe (.str i) (.str j) (!decide (i = j)) := fun v u H2 Q dv du k => by
  rw [dv.str_v, du.str_v]
  refine ⟨rfl, ?_⟩
  have z := k H2 (Evl.Ex.refl H2)
  rw [dec_str, Bool.beq_eq_decide_eq]
  exact z
theorem says_eqD {d f : PyData} (hd : SeqAt.shaped d = true) (hf : SeqAt.shaped f = true) : Says X (rEqD X.K) d f (PyData.eqv d f) := fun v u H2 Q dv du k => ⟨d, f, dv, du, hd, hf, k H2 (Evl.Ex.refl H2)⟩
theorem says_neD {d f : PyData} (hd : SeqAt.shaped d = true) (hf : SeqAt.shaped f = true) : Says X (rNeD X.K) d f (!PyData.eqv d f) := fun v u H2 Q dv du k => ⟨d, f, dv, du, hd, hf, k H2 (Evl.Ex.refl H2)⟩
section
variable {i j : Int}
theorem vt_lt (ha : VD X a σ H (.int i)) (hb : VD X b σ H (.int j)) : VT X (.Compare a [.Lt] [b] pos) σ H (decide (i < j)) := vt_cmp op_lt (nomark _) ha hb says_lt
theorem vt_le (ha : VD X a σ H (.int i)) (hb : VD X b σ H (.int j)) : VT X (.Compare a [.LtE] [b] pos) σ H (decide (i ≤ j)) := vt_cmp op_le (nomark _) ha hb says_le
theorem vt_gt (ha : VD X a σ H (.int i)) (hb : VD X b σ H (.int j)) : VT X (.Compare a [.Gt] [b] pos) σ H (decide (j < i)) := vt_cmp op_gt (nomark _) ha hb says_gt
theorem vt_ge (ha : VD X a σ H (.int i)) (hb : VD X b σ H (.int j)) : VT X (.Compare a [.GtE] [b] pos) σ H (decide (j ≤ i)) := vt_cmp op_ge (nomark _) ha hb says_ge
theorem vt_eq (ha : VD X a σ H (.int i)) (hb : VD X b σ H (.int j)) : VT X (.Compare a [.Eq] [b] pos) σ H (decide (i = j)) := vt_cmp op_eq (nomark _) ha hb says_eqI
theorem vt_ne (ha : VD X a σ H (.int i)) (hb : VD X b σ H (.int j)) : VT X (.Compare a [.NotEq] [b] pos) σ H (!decide (i = j)) := vt_cmp op_ne (nomark _) ha hb says_neI
theorem vd_lt (ha : VD X a σ H (.int i)) (hb : VD X b σ H (.int j)) : VD X (.Compare a [.Lt] [b] pos) σ H (.bool (decide (i < j))) := vd_cmp op_lt (nomark _) ha hb says_lt
theorem vd_gt (ha : VD X a σ H (.int i)) (hb : VD X b σ H (.int j)) : VD X (.Compare a [.Gt] [b] pos) σ H (.bool (decide (j < i))) := vd_cmp op_gt (nomark _) ha hb says_gt
theorem vd_eq (ha : VD X a σ H (.int i)) (hb : VD X b σ H (.int j)) : VD X (.Compare a [.Eq] [b] pos) σ H (.bool (decide (i = j))) := vd_cmp op_eq (nomark _) ha hb says_eqI
end
section
variable {i j : Str}
theorem vt_eqS (ha : VD X a σ H (.str i)) (hb : VD X b σ H (.str j)) : VT X (.Compare a [.Eq] [b] pos) σ H (decide (i = j)) := vt_cmp op_eq (nomark _) ha hb says_eqS
theorem vt_neS (ha : VD X a σ H (.str i)) (hb : VD X b σ H (.str j)) : VT X (.Compare a [.NotEq] [b] pos) σ H (!decide (i = j)) := vt_cmp op_ne (nomark _) ha hb says_neS
theorem vd_eqS (ha : VD X a σ H (.str i)) (hb : VD X b σ H (.str j)) : VD X (.Compare a [.Eq] [b] pos) σ H (.bool (decide (i = j))) := vd_cmp op_eq (nomark _) ha hb says_eqS
theorem vd_neS (ha : VD X a σ H (.str i)) (hb : VD X b σ H (.str j)) : VD X (.Compare a [.NotEq] [b] pos) σ H (.bool (!decide (i = j))) := vd_cmp op_ne (nomark _) ha hb says_neS
end
theorem vt_eqD {d f : PyData} (hu : X.A.units + 64 < cLine) (ha : VD X a σ H d) (hb : VD X b σ H f) (hd : SeqAt.shaped d = true) (hf : SeqAt.shaped f = true) : VT X (.Compare a [.Eq] [b] pos) σ H (PyData.eqv d f) := vt_cmp (op_eqD hu) (nomark _) ha hb (says_eqD hd hf)
theorem vt_neD {d f : PyData} (hu : X.A.units + 64 < cLine) (ha : VD X a σ H d) (hb : VD X b σ H f) (hd : SeqAt.shaped d = true) (hf : SeqAt.shaped f = true) : VT X (.Compare a [.NotEq] [b] pos) σ H (!PyData.eqv d f) := vt_cmp (op_neD hu) (nomark _) ha hb (says_neD hd hf)
theorem vd_eqD {d f : PyData} (hu : X.A.units + 64 < cLine) (ha : VD X a σ H d) (hb : VD X b σ H f) (hd : SeqAt.shaped d = true) (hf : SeqAt.shaped f = true) : VD X (.Compare a [.Eq] [b] pos) σ H (.bool (PyData.eqv d f)) := vd_cmp (op_eqD hu) (nomark _) ha hb (says_eqD hd hf)
/-- one sign in a text -/
theorem vt_inS {n : Nat} {z : Str} (ha : VD X a σ H (.str ⟨#[n]⟩)) (hb : VD X b σ H (.str z)) (hm : behindInMarks .In b = false := by rfl) : VT X (.Compare a [.In] [b] pos) σ H (decide (n ∈ z.cps.toList)) :=
  vt_cmp op_in_sign hm ha hb fun v u H2 Q dv du k => ⟨n, z, dv.str_v, du.str_v, k H2 (Evl.Ex.refl H2)⟩
theorem vd_inS {n : Nat} {z : Str} (ha : VD X a σ H (.str ⟨#[n]⟩)) (hb : VD X b σ H (.str z)) (hm : behindInMarks .In b = false := by rfl) : VD X (.Compare a [.In] [b] pos) σ H (.bool (decide (n ∈ z.cps.toList))) :=
  vd_cmp op_in_sign hm ha hb fun v u H2 Q dv du k => ⟨n, z, dv.str_v, du.str_v, k H2 (Evl.Ex.refl H2)⟩
theorem vt_ninS {n : Nat} {z : Str} (ha : VD X a σ H (.str ⟨#[n]⟩)) (hb : VD X b σ H (.str z)) (hm : behindInMarks .NotIn b = false := by rfl) : VT X (.Compare a [.NotIn] [b] pos) σ H (!decide (n ∈ z.cps.toList)) :=
  vt_cmp op_notIn_sign hm ha hb fun v u H2 Q dv du k => ⟨n, z, dv.str_v, du.str_v, k H2 (Evl.Ex.refl H2)⟩
/-! tests -/
theorem vt_val {t : Bool} (h : VD X e σ H (.bool t)) (he : ∀ whole, isTrue e X.env whole = (do let v ← whole; standAt e.pos; holding [v] (truthy v)) := by intro _; rfl) : VT X e σ H t :=
  fun H1 e1 => .of (pt_val WE.pe he) ((h H1 e1).mono fun v H2 ⟨e2, dv⟩ => ⟨t, dv.bl_v, e2, rfl⟩)
theorem vt_not {t : Bool} (h : VT X e σ H t) : VT X (.UnaryOp .Not e pos) σ H (!t) := fun H1 e1 => .of (pt_not WT.pt) ((h H1 e1).mono fun c H2 ⟨e2, dc⟩ => ⟨e2, by rw [dc]⟩)
theorem vd_not {t : Bool} (h : VD X e σ H (.bool t)) : VD X (.UnaryOp .Not e pos) σ H (.bool (!t)) := fun H1 e1 => .of (pe_not WE.pe) ((h H1 e1).mono fun v H2 ⟨e2, dv⟩ => ⟨t, dv.bl_v, e2, .bl _⟩)
/-- a chain of and, or as a test -/
def VW (X : Cx) (e : Expr) (σ : St) (H : Hp) (b : Bool) : Prop := ∀ H1, Ex H H1 → ∀ (whole : Sem Value) (pins : List (Addr × Obj)) (s : Shared), Inv X pins σ H1 s → wpAny (model X.prog X.w) X.A (isTrue e X.env whole) (TP X pins σ fun c H2 => Ex H1 H2 ∧ c = b) X.xe s
theorem VW.vt {t : Bool} (h : VW X e σ H t) : VT X e σ H t := fun H1 e1 pins s I => h H1 e1 _ pins s I
theorem vw_of {t : TT} {k : Bool} (h : PW X e t) (q : ∀ H1, Ex H H1 → t σ H1 fun c H2 => Ex H1 H2 ∧ c = k) : VW X e σ H k := fun H1 e1 whole pins s I => h.run whole pins s σ H1 _ I (q H1 e1)
theorem VW.pw : PW X e (fun σ H Q => ∀ (whole : Sem Value) (pins : List (Addr × Obj)) (s : Shared), Inv X pins σ H s → wpAny (model X.prog X.w) X.A (isTrue e X.env whole) (TP X pins σ Q) X.xe s) := ⟨fun whole pins s _ _ _ I h => h whole pins s I⟩
theorem VW.mono {t : Bool} {Q : Bool → Hp → Prop} {H1 : Hp} (h : VW X e σ H t) (e1 : Ex H H1) (k : ∀ H2, Ex H1 H2 → Q t H2) : ∀ (whole : Sem Value) (pins : List (Addr × Obj)) (s : Shared), Inv X pins σ H1 s → wpAny (model X.prog X.w) X.A (isTrue e X.env whole) (TP X pins σ Q) X.xe s :=
  fun whole pins s I => thn (h H1 e1 whole pins s I) fun _ _ ⟨H2, J, e2, q⟩ => ⟨H2, J, by rw [q]; exact k H2 e2⟩
theorem vw_and1 {t : Bool} (h : VT X a σ H t) : VW X (.BoolOp .And [a] pos) σ H t := vw_of (pw_and1 WT.pt) fun H1 e1 => h H1 e1
theorem vw_or1 {t : Bool} (h : VT X a σ H t) : VW X (.BoolOp .Or [a] pos) σ H t := vw_of (pw_or1 WT.pt) fun H1 e1 => h H1 e1
theorem vw_and {t u : Bool} (h : VT X a σ H t) (k : t = true → VW X (.BoolOp .And (b :: rest) pos) σ H u) : VW X (.BoolOp .And (a :: b :: rest) pos) σ H (t && u) := vw_of (pw_and WT.pt VW.pw) fun H1 e1 => (h H1 e1).mono fun c H2 ⟨e2, dc⟩ => by
  subst dc
  cases c with
  | true => exact iteT (VW.mono (k rfl) (Evl.Ex.trans e1 e2) fun H3 e3 => ⟨Evl.Ex.trans e2 e3, by rw [Bool.true_and]⟩)
  | false => exact iteF ⟨e2, rfl⟩
theorem vw_or {t u : Bool} (h : VT X a σ H t) (k : t = false → VW X (.BoolOp .Or (b :: rest) pos) σ H u) : VW X (.BoolOp .Or (a :: b :: rest) pos) σ H (t || u) := vw_of (pw_or WT.pt VW.pw) fun H1 e1 => (h H1 e1).mono fun c H2 ⟨e2, dc⟩ => by
  subst dc
  cases c with
  | true => exact iteT ⟨e2, rfl⟩
  | false => exact iteF (VW.mono (k rfl) (Evl.Ex.trans e1 e2) fun H3 e3 => ⟨Evl.Ex.trans e2 e3, by rw [Bool.false_or]⟩)
/-- as values: what is given is True or False -/
theorem vd_one {op} {d : PyData} (h : VD X a σ H d) : VD X (.BoolOp op [a] pos) σ H d := fun H1 e1 => .of (pe_one WE.pe) (h H1 e1)
theorem vd_and {t : Bool} {u : Bool} (h : VD X a σ H (.bool t)) (k : t = true → VD X (.BoolOp .And (b :: rest) pos) σ H (.bool u)) : VD X (.BoolOp .And (a :: b :: rest) pos) σ H (.bool (t && u)) := fun H1 e1 => .of (pe_and WE.pe WE.pe) ((h H1 e1).mono fun v H2 ⟨e2, dv⟩ => ⟨t, dv.bl_v, by
  cases t with
  | true => exact iteT ((k rfl H2 (Evl.Ex.trans e1 e2)).mono fun u H3 ⟨e3, du⟩ => ⟨Evl.Ex.trans e2 e3, by rw [Bool.true_and]; exact du⟩)
  | false => exact iteF ⟨e2, .bl false⟩⟩)
theorem vd_or {t : Bool} {u : Bool} (h : VD X a σ H (.bool t)) (k : t = false → VD X (.BoolOp .Or (b :: rest) pos) σ H (.bool u)) : VD X (.BoolOp .Or (a :: b :: rest) pos) σ H (.bool (t || u)) := fun H1 e1 => .of (pe_or WE.pe WE.pe) ((h H1 e1).mono fun v H2 ⟨e2, dv⟩ => ⟨t, dv.bl_v, by
  cases t with
  | true => exact iteT ⟨e2, .bl true⟩
  | false => exact iteF ((k rfl H2 (Evl.Ex.trans e1 e2)).mono fun u H3 ⟨e3, du⟩ => ⟨Evl.Ex.trans e2 e3, by rw [Bool.false_or]; exact du⟩)⟩)
/-- one value or the other -/
theorem we_if {t : Bool} (h : VT X c σ H t) (k1 : t = true → ∀ H1, Ex H H1 → WE X a σ H1 Q) (k2 : t = false → ∀ H1, Ex H H1 → WE X b σ H1 Q) : WE X (.IfExp c a b pos) σ H Q := .of (pe_ifExp WT.pt WE.pe WE.pe) (h.use fun H1 e1 => by
  cases t with
  | true => exact iteT (k1 rfl H1 e1)
  | false => exact iteF (k2 rfl H1 e1))
theorem vd_if {t : Bool} {d : PyData} (h : VT X c σ H t) (k1 : t = true → VD X a σ H d) (k2 : t = false → VD X b σ H d) : VD X (.IfExp c a b pos) σ H d := fun H1 e1 => we_if (h.at_ e1)
  (fun z H2 e2 => (k1 z H2 (Evl.Ex.trans e1 e2)).mono fun _ _ ⟨e3, dv⟩ => ⟨Evl.Ex.trans e2 e3, dv⟩) (fun z H2 e2 => (k2 z H2 (Evl.Ex.trans e1 e2)).mono fun _ _ ⟨e3, dv⟩ => ⟨Evl.Ex.trans e2 e3, dv⟩)
theorem vl_if {t : Bool} {d : List PyData} (h : VT X c σ H t) (k1 : t = true → VL X a σ H d) (k2 : t = false → VL X b σ H d) : VL X (.IfExp c a b pos) σ H d := fun H1 e1 => we_if (h.at_ e1)
  (fun z H2 e2 => (k1 z H2 (Evl.Ex.trans e1 e2)).mono fun _ _ ⟨e3, dv⟩ => ⟨Evl.Ex.trans e2 e3, dv⟩) (fun z H2 e2 => (k2 z H2 (Evl.Ex.trans e1 e2)).mono fun _ _ ⟨e3, dv⟩ => ⟨Evl.Ex.trans e2 e3, dv⟩)
/-! arguments, displays -/
theorem wa_nil {Q : List V → Hp → Prop} (q : Q [] H) : WA X [] σ H Q := .of pa_nil q
theorem wa_cons {Q : List V → Hp → Prop} (h : WE X e σ H fun v H1 => WA X es σ H1 fun vs H2 => Q (v :: vs) H2) (hs : starEach (e :: es) X.env = (false, eval e X.env) :: starEach es X.env := by rfl) : WA X (e :: es) σ H Q := .of (pa_cons WE.pe WA.pa hs) h
theorem va_nil : VA X [] σ H [] := fun H1 _ => wa_nil ⟨Evl.Ex.refl H1, .nil⟩
theorem va_cons {d : PyData} {ds : List PyData} (h : VD X e σ H d) (k : VA X es σ H ds) (hs : starEach (e :: es) X.env = (false, eval e X.env) :: starEach es X.env := by rfl) : VA X (e :: es) σ H (d :: ds) :=
  fun H1 e1 => wa_cons ((h H1 e1).mono fun v H2 ⟨e2, dv⟩ => (k H2 (Evl.Ex.trans e1 e2)).mono fun vs H3 ⟨e3, dvs⟩ => ⟨Evl.Ex.trans e2 e3, .cons (dv.up e3) dvs⟩) hs
theorem va1 {d : PyData} (h : VD X e σ H d) (hs : starEach [e] X.env = (false, eval e X.env) :: starEach [] X.env := by rfl) : VA X [e] σ H [d] := va_cons h va_nil hs
theorem va2 {d f : PyData} (h : VD X a σ H d) (k : VD X b σ H f) (hs : starEach [a, b] X.env = (false, eval a X.env) :: starEach [b] X.env := by rfl) (hs2 : starEach [b] X.env = (false, eval b X.env) :: starEach [] X.env := by rfl) : VA X [a, b] σ H [d, f] := va_cons h (va1 k hs2) hs
theorem small_line {n : Nat} (h : n ≤ 100000) : n ≤ sizeLine := Nat.le_trans h (by decide)
theorem vd_tup {ds : List PyData} {z} (h : VA X es σ H ds) (hz : ds.length ≤ 100000) : VD X (.Tuple es z pos) σ H (.tuple ds) := fun H1 e1 => .of (pe_tup WA.pa) ((h H1 e1).mono fun vs H2 ⟨e2, dvs⟩ => ⟨by rw [dvs.len]; exact small_line hz, fun p hp => ⟨Evl.Ex.trans e2 (Evl.Ex.new hp), .tup (SqT.of upd_same) (dvs.up (Evl.Ex.new hp))⟩⟩)
theorem vl_lst {ds : List PyData} (h : VA X es σ H ds) (hz : ds.length ≤ 100000) : VL X (.List es pos) σ H ds := fun H1 e1 => .of (pe_lst WA.pa) ((h H1 e1).mono fun vs H2 ⟨e2, dvs⟩ => ⟨by rw [dvs.len]; exact small_line hz, fun p hp => ⟨Evl.Ex.trans e2 (Evl.Ex.new hp), p, vs, rfl, upd_same, dvs.up (Evl.Ex.new hp)⟩⟩)
/-! subscripts -/
theorem we_ix {r : R2} (hr : IxR X r) (h : WE X a σ H fun v H1 => WE X b σ H1 fun u H2 => r v u H2 Q) (hs : PlainIx b := by exact fun _ _ => rfl) : WE X (.Subscript a b pos) σ H Q := .of (pe_ix hr WE.pe WE.pe hs) h
theorem atI_of {α : Type} {ds : List α} {i : Int} {d : α} (h : atI ds i = some d) : ∃ j, ds[j]? = some d ∧ ixN ds.length i = some j := by
  unfold atI at h
  cases e : ixN ds.length i with
  | none => rw [e] at h; cases h
  | some j => rw [e] at h; exact ⟨j, h, rfl⟩
theorem atI_rel {K : PySem.W.Frag} {vs : List V} {ds : List PyData} (h : DpAll K H vs ds) {i : Int} {d : PyData} (e : atI ds i = some d) : ∃ v, atI vs i = some v ∧ Dp K H v d := by
  obtain ⟨j, e1, e2⟩ := atI_of e
  obtain ⟨v, h1, h2⟩ := h.at_ e1
  refine ⟨v, ?_, h2⟩
  unfold atI
  rw [h.len, e2]
  exact h1
theorem vd_ixT {ds : List PyData} {d : PyData} {i : Int} (ha : VD X a σ H (.tuple ds)) (hb : VD X b σ H (.int i)) (hi : atI ds i = some d) (hs : PlainIx b := by exact fun _ _ => rfl) : VD X (.Subscript a b pos) σ H d :=
  fun H1 e1 => we_ix ix_tup ((ha H1 e1).mono fun v H2 ⟨e2, dv⟩ => (hb H2 (Evl.Ex.trans e1 e2)).mono fun u H3 ⟨e3, du⟩ => by
    obtain ⟨l, xs, ev, s, da⟩ := (dv.up e3).tup_v
    obtain ⟨w, h1, h2⟩ := atI_rel da hi
    exact ⟨l, xs, i, w, ev, du.int_v, s, h1, Evl.Ex.trans e2 e3, h2⟩) hs
theorem vd_ixL {ds : List PyData} {d : PyData} {i : Int} (ha : VD X a σ H (.list ds)) (hb : VD X b σ H (.int i)) (hi : atI ds i = some d) (hs : PlainIx b := by exact fun _ _ => rfl) : VD X (.Subscript a b pos) σ H d :=
  fun H1 e1 => we_ix ix_list ((ha H1 e1).mono fun v H2 ⟨e2, dv⟩ => (hb H2 (Evl.Ex.trans e1 e2)).mono fun u H3 ⟨e3, du⟩ => by
    obtain ⟨l, xs, ev, s, da⟩ := (dv.up e3).lst_v
    obtain ⟨w, h1, h2⟩ := atI_rel da hi
    exact ⟨l, xs, i, w, ev, du.int_v, s, h1, Evl.Ex.trans e2 e3, h2⟩) hs
theorem vd_ixS {z : Str} {n : Nat} {i : Int} (ha : VD X a σ H (.str z)) (hb : VD X b σ H (.int i)) (hz : z.length ≤ sizeLine) (hi : atI z.cps.toList i = some n) (hs : PlainIx b := by exact fun _ _ => rfl) : VD X (.Subscript a b pos) σ H (.str ⟨#[n]⟩) :=
  fun H1 e1 => we_ix ix_str ((ha H1 e1).mono fun v H2 ⟨e2, dv⟩ => (hb H2 (Evl.Ex.trans e1 e2)).mono fun u H3 ⟨e3, du⟩ => ⟨z, i, n, dv.str_v, du.int_v, hz, hi, Evl.Ex.trans e2 e3, .str _⟩) hs
/-- a slice's ends -/
def VO (X : Cx) (o : Option Expr) (σ : St) (H : Hp) (k : Option Int) : Prop := ∃ t, PO X o t ∧ ∀ H1, Ex H H1 → ∀ Q : Option Int → Hp → Prop, (∀ H2, Ex H1 H2 → Q k H2) → t σ H1 Q
theorem vo_none : VO X none σ H none := ⟨_, po_none, fun H1 _ Q q => q H1 (Evl.Ex.refl H1)⟩
theorem vo_some {i : Int} (h : VD X e σ H (.int i)) : VO X (some e) σ H (some i) := ⟨_, po_some WE.pe, fun H1 e1 Q q => (h H1 e1).mono fun v H2 ⟨e2, dv⟩ => ⟨i, dv.int_v, q H2 e2⟩⟩
def cutD (ds : List PyData) (lo hi : Option Int) : List PyData := (ds.drop (HT.sIx ds.length 0 lo)).take (HT.sIx ds.length ds.length hi - HT.sIx ds.length 0 lo)
theorem vl_cut {ds : List PyData} {lo hi : Option Expr} {i j : Option Int} {p2 : Pos} (ha : VD X a σ H (.list ds)) (h1 : VO X lo σ H i) (h2 : VO X hi σ H j) : VL X (.Subscript a (.Slice lo hi none p2) pos) σ H (cutD ds i j) := fun H1 e1 => by
  obtain ⟨t1, q1, r1⟩ := h1
  obtain ⟨t2, q2, r2⟩ := h2
  refine .of (pe_slice sl_list WE.pe q1 q2) ((ha H1 e1).mono fun v H2 ⟨e2, dv⟩ => r1 H2 (Evl.Ex.trans e1 e2) _ fun H3 e3 => r2 H3 (Evl.Ex.trans (Evl.Ex.trans e1 e2) e3) _ fun H4 e4 => ?_)
  obtain ⟨l, xs, ev, s, da⟩ := (dv.up (Evl.Ex.trans e3 e4)).lst_v
  refine ⟨l, xs, ev, s, fun n hn => ⟨Evl.Ex.trans e2 (Evl.Ex.trans e3 (Evl.Ex.trans e4 (Evl.Ex.new hn))), n, _, rfl, upd_same, ?_⟩⟩
  unfold cutV cutD
  rw [da.len]
  exact ((da.drop _).take _).up (Evl.Ex.new hn)
theorem vd_cutS {z : Str} {lo hi : Option Expr} {i j : Option Int} {p2 : Pos} (ha : VD X a σ H (.str z)) (h1 : VO X lo σ H i) (h2 : VO X hi σ H j) (hz : z.length ≤ sizeLine) : VD X (.Subscript a (.Slice lo hi none p2) pos) σ H (.str (cutS z i j)) := fun H1 e1 => by
  obtain ⟨t1, q1, r1⟩ := h1
  obtain ⟨t2, q2, r2⟩ := h2
  exact .of (pe_slice sl_str WE.pe q1 q2) ((ha H1 e1).mono fun v H2 ⟨e2, dv⟩ => r1 H2 (Evl.Ex.trans e1 e2) _ fun H3 e3 => r2 H3 (Evl.Ex.trans (Evl.Ex.trans e1 e2) e3) _ fun H4 e4 => ⟨z, dv.str_v, hz, Evl.Ex.trans e2 (Evl.Ex.trans e3 e4), .str _⟩)
end
end G

/-! # P3: calls -/
namespace G
open PySem PySem.Spec PyProof.Rows L2
/-- what all contexts of one law share -/
structure Gd where
  P : Program
  w : World
  K : PySem.W.Frag
  mg : Str → Option Value
  base : Heap
abbrev Cxg (X : Cx) : Gd := ⟨X.prog, X.w, X.K, X.mg, X.base⟩
abbrev CXg (g : Gd) : CXT := L2.CX g.P g.w
/-- a def of the program that keeps its promise; dvs: the defaults that fill up -/
def Fd (g : Gd) (x : Str) (ps : List Str) (k : Nat) (sp : Sp) (dvs : List V := []) : Prop := ∃ (f : Addr) (fd : FuncData) (ds : List Value), FnOk g.P g.w g.K g.mg g.base (CXg g) k f fd ps sp ∧ g.mg x = some (.ref f) ∧ PySem.W.keepIn g.K (.ref f) = true ∧ Vals dvs ds ∧ Binds g.K fd ps ds
/-- a method of the class at C -/
def Md (g : Gd) (C : Addr) (m : Str) (ps : List Str) (k : Nat) (sp : Sp) : Prop := ∃ (f : Addr) (fd : FuncData), FnOk g.P g.w g.K g.mg g.base (CXg g) k f fd ps sp ∧ Meth g.K C m f ∧ Binds g.K fd ps []
theorem Fd.mono {g : Gd} {x : Str} {ps : List Str} {j k : Nat} {sp : Sp} {dvs : List V} (h : Fd g x ps j sp dvs) (l : j ≤ k) : Fd g x ps k sp dvs := by
  obtain ⟨f, fd, ds, a, b⟩ := h
  exact ⟨f, fd, ds, a.mono l, b⟩
theorem Md.mono {g : Gd} {C : Addr} {m : Str} {ps : List Str} {j k : Nat} {sp : Sp} (h : Md g C m ps j sp) (l : j ≤ k) : Md g C m ps k sp := by
  obtain ⟨f, fd, a, b⟩ := h
  exact ⟨f, fd, a.mono l, b⟩
abbrev NoE : XK := fun _ _ _ => False
section
variable {X : Cx} {e o : Expr} {es : List Expr} {σ : St} {H : Hp} {Q : VK} {pos p q apos : Pos} {x m : Str} {ps : List Str} {k : Nat} {sp : Sp} {E : XK}
theorem we_call {dvs : List V} (F : Fd (Cxg X) x ps k sp dvs) (hr : Room k X.A) (hx : Passes (L2.CX X.prog X.w) X E) (h : WA X (e :: es) σ H fun vs H1 => sp (vs ++ dvs) H1 Q E) (hg : Gl X x := by rfl) (hdb : (x == ("__debug__" : Str)) = false := by decide)
    (he : starEach (e :: es) X.env = (false, eval e X.env) :: starEach es X.env := by rfl) (hpl : (backTo pos (starEach es X.env)).any (·.1) = false := by rfl) : WE X (.Call (.Name x p) (e :: es) [] pos) σ H Q := by
  obtain ⟨f, fd, ds, ok, hm, hk, hd, hb⟩ := F
  exact .of (pe_call ok hr hg hm hk hb hd hx WA.pa hdb he hpl) h
/-- .. one that raises nothing -/
theorem we_call0 (F : Fd (Cxg X) x ps k sp) (hr : Room k X.A) (h : WA X (e :: es) σ H fun vs H1 => sp vs H1 Q NoE) (hg : Gl X x := by rfl) (hdb : (x == ("__debug__" : Str)) = false := by decide)
    (he : starEach (e :: es) X.env = (false, eval e X.env) :: starEach es X.env := by rfl) (hpl : (backTo pos (starEach es X.env)).any (·.1) = false := by rfl) : WE X (.Call (.Name x p) (e :: es) [] pos) σ H Q :=
  we_call F hr passL (h.mono fun vs H1 z => by rw [List.append_nil]; exact z) hg hdb he hpl
theorem we_meth {C : Addr} (F : Md (Cxg X) C m ps k sp) (c : Cls X.K C) (hr : Room k X.A) (hx : Passes (L2.CX X.prog X.w) X E) (h : WE X o σ H fun v H1 => ∃ a dx fs, v = .ref a ∧ H1 a = some (.ins C dx fs) ∧ fs.lookup m = none ∧ WA X (e :: es) σ H1 fun vs H2 => sp (v :: vs) H2 Q E)
    (hst : starEach (e :: es) X.env = (false, eval e X.env) :: starEach es X.env := by rfl) (hpl : (backTo pos (starEach es X.env)).any (·.1) = false := by rfl) {pl : Sem Bool}
    (ht : eval (.Call (.Attribute o m apos) (e :: es) [] pos) X.env = (do
      let ov ← eval o X.env
      standAt apos.atName
      let (f, first) ← holding [ov] (getMethod ov m pl)
      callWith pos f first (backTo pos (starEach (e :: es) X.env)) (backToKw pos (keywordEach [] X.env))) := by rfl) : WE X (.Call (.Attribute o m apos) (e :: es) [] pos) σ H Q := by
  obtain ⟨f, fd, ok, hm, hb⟩ := F
  refine .of (pe_meth (pl := pl) WE.pe c hm ok hr hb .nil hx WA.pa hst hpl ht) (h.mono fun v H1 ⟨a, dx, fs, e1, e2, e3, k⟩ => ⟨a, dx, fs, e1, e2, e3, k.mono fun vs H2 z => ?_⟩)
  rw [List.append_nil]
  exact z
theorem we_meth0 {C : Addr} (F : Md (Cxg X) C m ps k sp) (c : Cls X.K C) (hr : Room k X.A) (hx : Passes (L2.CX X.prog X.w) X E) (h : WE X o σ H fun v H1 => ∃ a dx fs, v = .ref a ∧ H1 a = some (.ins C dx fs) ∧ fs.lookup m = none ∧ sp [v] H1 Q E) {pl : Sem Bool}
    (ht : eval (.Call (.Attribute o m apos) [] [] pos) X.env = (do
      let ov ← eval o X.env
      standAt apos.atName
      let (f, first) ← holding [ov] (getMethod ov m pl)
      callWith pos f first (backTo pos (starEach [] X.env)) (backToKw pos (keywordEach [] X.env))) := by rfl) : WE X (.Call (.Attribute o m apos) [] [] pos) σ H Q := by
  obtain ⟨f, fd, ok, hm, hb⟩ := F
  exact .of (pe_meth0 (pl := pl) WE.pe c hm ok hr hb .nil hx (ht := ht)) h
end
/-! ### defs that reckon with data alone: f tells the answer, none where it is not asked -/
def spF (K : PySem.W.Frag) (n : Nat) (f : List PyData → Option PyData) : Sp := fun vs H Q _ => vs.length = n ∧ ∃ ds r, DpAll K H vs ds ∧ f ds = some r ∧ ∀ v H', Ex H H' → Dp K H' v r → Q v H'
/-- .. that hand back a list of their own -/
def spL (K : PySem.W.Frag) (n : Nat) (f : List PyData → Option (List PyData)) : Sp := fun vs H Q _ => vs.length = n ∧ ∃ ds r, DpAll K H vs ds ∧ f ds = some r ∧ ∀ v H', Ex H H' → DpL K H' v r → Q v H'
section
variable {X : Cx} {e o a b c : Expr} {es : List Expr} {σ : St} {H : Hp} {Q : VK} {pos p q apos : Pos} {x m : Str} {ps : List Str} {k n : Nat} {E : XK}
theorem vd_call {f : List PyData → Option PyData} {ds : List PyData} {r : PyData} (F : Fd (Cxg X) x ps k (spF X.K n f)) (hr : Room k X.A) (h : VA X (e :: es) σ H ds) (hn : ds.length = n) (hf : f ds = some r) (hg : Gl X x := by rfl) (hdb : (x == ("__debug__" : Str)) = false := by decide)
    (he : starEach (e :: es) X.env = (false, eval e X.env) :: starEach es X.env := by rfl) (hpl : (backTo pos (starEach es X.env)).any (·.1) = false := by rfl) : VD X (.Call (.Name x p) (e :: es) [] pos) σ H r := fun H1 e1 =>
  we_call0 F hr ((h H1 e1).mono fun vs H2 ⟨e2, dvs⟩ => ⟨by rw [dvs.len]; exact hn, ds, r, dvs, hf, fun v H3 e3 dv => ⟨Evl.Ex.trans e2 e3, dv⟩⟩) hg hdb he hpl
theorem vl_call {f : List PyData → Option (List PyData)} {ds r : List PyData} (F : Fd (Cxg X) x ps k (spL X.K n f)) (hr : Room k X.A) (h : VA X (e :: es) σ H ds) (hn : ds.length = n) (hf : f ds = some r) (hg : Gl X x := by rfl) (hdb : (x == ("__debug__" : Str)) = false := by decide)
    (he : starEach (e :: es) X.env = (false, eval e X.env) :: starEach es X.env := by rfl) (hpl : (backTo pos (starEach es X.env)).any (·.1) = false := by rfl) : VL X (.Call (.Name x p) (e :: es) [] pos) σ H r := fun H1 e1 =>
  we_call0 F hr ((h H1 e1).mono fun vs H2 ⟨e2, dvs⟩ => ⟨by rw [dvs.len]; exact hn, ds, r, dvs, hf, fun v H3 e3 dv => ⟨Evl.Ex.trans e2 e3, dv⟩⟩) hg hdb he hpl
/-! built-ins -/
theorem we_callB {id : String} {r : List V → Hp → VK → Prop} (hc : CallR X (.builtin id) r) (hm : X.mg x = none) (hv : bootBuiltins x = some (.builtin id)) (h : WA X (e :: es) σ H fun vs H1 => r vs H1 Q) (hg : Gl X x := by rfl) (hn : x ≠ "__name__" := by decide) (hdb : (x == ("__debug__" : Str)) = false := by decide)
    (he : starEach (e :: es) X.env = (false, eval e X.env) :: starEach es X.env := by rfl) (hpl : (backTo pos (starEach es X.env)).any (·.1) = false := by rfl) : WE X (.Call (.Name x p) (e :: es) [] pos) σ H Q := .of (pe_callB hc hg hm hv WA.pa hn hdb he hpl) h
theorem we_callT {T : String} {r : List V → Hp → VK → Prop} (hc : CallR X (.type T) r) (hm : X.mg x = none) (hv : bootBuiltins x = some (.type T)) (h : WA X (e :: es) σ H fun vs H1 => r vs H1 Q) (hg : Gl X x := by rfl) (hn : x ≠ "__name__" := by decide) (hdb : (x == ("__debug__" : Str)) = false := by decide)
    (he : starEach (e :: es) X.env = (false, eval e X.env) :: starEach es X.env := by rfl) (hpl : (backTo pos (starEach es X.env)).any (·.1) = false := by rfl) : WE X (.Call (.Name x p) (e :: es) [] pos) σ H Q := .of (pe_callTy hc hg hm hv WA.pa hn hdb he hpl) h
theorem vd_len {ds : List PyData} (hm : X.mg "len" = none) (h : VD X e σ H (.list ds)) (hg : Gl X "len" := by rfl) (he : starEach [e] X.env = (false, eval e X.env) :: starEach [] X.env := by rfl) (hpl : (backTo pos (starEach [] X.env)).any (·.1) = false := by rfl) : VD X (.Call (.Name "len" p) [e] [] pos) σ H (.int ds.length) := fun H1 e1 =>
  we_callB call_len_seq hm PySem.boot_len (wa_cons ((h H1 e1).mono fun v H2 ⟨e2, dv⟩ => wa_nil (by
    obtain ⟨l, xs, ev, s, da⟩ := dv.lst_v
    exact ⟨l, xs, by rw [ev], .inl s, e2, by rw [da.len]; exact .int _⟩)) he) hg (by decide) (by decide) he hpl
theorem vd_lenT {ds : List PyData} (hm : X.mg "len" = none) (h : VD X e σ H (.tuple ds)) (hg : Gl X "len" := by rfl) (he : starEach [e] X.env = (false, eval e X.env) :: starEach [] X.env := by rfl) (hpl : (backTo pos (starEach [] X.env)).any (·.1) = false := by rfl) : VD X (.Call (.Name "len" p) [e] [] pos) σ H (.int ds.length) := fun H1 e1 =>
  we_callB call_len_seq hm PySem.boot_len (wa_cons ((h H1 e1).mono fun v H2 ⟨e2, dv⟩ => wa_nil (by
    obtain ⟨l, xs, ev, s, da⟩ := dv.tup_v
    exact ⟨l, xs, by rw [ev], .inr s, e2, by rw [da.len]; exact .int _⟩)) he) hg (by decide) (by decide) he hpl
theorem vd_lenS {z : Str} (hm : X.mg "len" = none) (h : VD X e σ H (.str z)) (hz : z.length ≤ sizeLine) (hg : Gl X "len" := by rfl) (he : starEach [e] X.env = (false, eval e X.env) :: starEach [] X.env := by rfl) (hpl : (backTo pos (starEach [] X.env)).any (·.1) = false := by rfl) : VD X (.Call (.Name "len" p) [e] [] pos) σ H (.int z.length) := fun H1 e1 =>
  we_callB call_len_str hm PySem.boot_len (wa_cons ((h H1 e1).mono fun v H2 ⟨e2, dv⟩ => wa_nil ⟨z, by rw [dv.str_v], hz, e2, .int _⟩) he) hg (by decide) (by decide) he hpl
/-- a built-in of data: its answer is data -/
theorem vd_callT1 {T : String} {r : List V → Hp → VK → Prop} {d f : PyData} (hc : CallR X (.type T) r) (hm : X.mg x = none) (hv : bootBuiltins x = some (.type T)) (h : VD X e σ H d) (k : ∀ v H2 (Q : VK), Dp X.K H2 v d → (∀ w H3, Ex H2 H3 → Dp X.K H3 w f → Q w H3) → r [v] H2 Q)
    (hg : Gl X x := by rfl) (hn : x ≠ "__name__" := by decide) (hdb : (x == ("__debug__" : Str)) = false := by decide)
    (he : starEach [e] X.env = (false, eval e X.env) :: starEach [] X.env := by rfl) (hpl : (backTo pos (starEach [] X.env)).any (·.1) = false := by rfl) : VD X (.Call (.Name x p) [e] [] pos) σ H f := fun H1 e1 =>
  we_callT hc hm hv (wa_cons ((h H1 e1).mono fun v H2 ⟨e2, dv⟩ => wa_nil (k v H2 _ dv fun w H3 e3 dw => ⟨Evl.Ex.trans e2 e3, dw⟩)) he) hg hn hdb he hpl
theorem vd_callB1 {T : String} {r : List V → Hp → VK → Prop} {d f : PyData} (hc : CallR X (.builtin T) r) (hm : X.mg x = none) (hv : bootBuiltins x = some (.builtin T)) (h : VD X e σ H d) (k : ∀ v H2 (Q : VK), Dp X.K H2 v d → (∀ w H3, Ex H2 H3 → Dp X.K H3 w f → Q w H3) → r [v] H2 Q)
    (hg : Gl X x := by rfl) (hn : x ≠ "__name__" := by decide) (hdb : (x == ("__debug__" : Str)) = false := by decide)
    (he : starEach [e] X.env = (false, eval e X.env) :: starEach [] X.env := by rfl) (hpl : (backTo pos (starEach [] X.env)).any (·.1) = false := by rfl) : VD X (.Call (.Name x p) [e] [] pos) σ H f := fun H1 e1 =>
  we_callB hc hm hv (wa_cons ((h H1 e1).mono fun v H2 ⟨e2, dv⟩ => wa_nil (k v H2 _ dv fun w H3 e3 dw => ⟨Evl.Ex.trans e2 e3, dw⟩)) he) hg hn hdb he hpl
theorem vd_intI {i : Int} (hm : X.mg "int" = none) (h : VD X e σ H (.int i)) (hg : Gl X "int" := by rfl) (he : starEach [e] X.env = (false, eval e X.env) :: starEach [] X.env := by rfl) (hpl : (backTo pos (starEach [] X.env)).any (·.1) = false := by rfl) : VD X (.Call (.Name "int" p) [e] [] pos) σ H (.int i) :=
  vd_callT1 call_int1 hm (by decide +kernel) h (fun v H2 Q dv k => .inl ⟨i, by rw [dv.int_v], k _ _ (Evl.Ex.refl _) (.int i)⟩) hg (by decide) (by decide) he hpl
theorem vd_intB {i : Bool} (hm : X.mg "int" = none) (h : VD X e σ H (.bool i)) (hg : Gl X "int" := by rfl) (he : starEach [e] X.env = (false, eval e X.env) :: starEach [] X.env := by rfl) (hpl : (backTo pos (starEach [] X.env)).any (·.1) = false := by rfl) : VD X (.Call (.Name "int" p) [e] [] pos) σ H (.int (if i then 1 else 0)) :=
  vd_callT1 call_int1 hm (by decide +kernel) h (fun v H2 Q dv k => .inr ⟨i, by rw [dv.bl_v], k _ _ (Evl.Ex.refl _) (.int _)⟩) hg (by decide) (by decide) he hpl
theorem vd_intS {z : Str} {i : Int} (hm : X.mg "int" = none) (h : VD X e σ H (.str z)) (hi : PySem.intText? z = some i) (hz : z.length ≤ 640) (hg : Gl X "int" := by rfl) (he : starEach [e] X.env = (false, eval e X.env) :: starEach [] X.env := by rfl) (hpl : (backTo pos (starEach [] X.env)).any (·.1) = false := by rfl) : VD X (.Call (.Name "int" p) [e] [] pos) σ H (.int i) :=
  vd_callT1 call_int_str hm (by decide +kernel) h (fun v H2 Q dv k => ⟨z, i, by rw [dv.str_v], hi, hz, k _ _ (Evl.Ex.refl _) (.int i)⟩) hg (by decide) (by decide) he hpl
theorem vd_str1 {i : Int} (hm : X.mg "str" = none) (h : VD X e σ H (.int i)) (hz : i.natAbs.log2 < 1920) (hg : Gl X "str" := by rfl) (he : starEach [e] X.env = (false, eval e X.env) :: starEach [] X.env := by rfl) (hpl : (backTo pos (starEach [] X.env)).any (·.1) = false := by rfl) : VD X (.Call (.Name "str" p) [e] [] pos) σ H (.str (Str.ofString (toString i))) :=
  vd_callT1 call_str_int hm (by decide +kernel) h (fun v H2 Q dv k => ⟨i, by rw [dv.int_v], hz, k _ _ (Evl.Ex.refl _) (.str _)⟩) hg (by decide) (by decide) he hpl
theorem vd_abs {i : Int} (hm : X.mg "abs" = none) (h : VD X e σ H (.int i)) (hg : Gl X "abs" := by rfl) (he : starEach [e] X.env = (false, eval e X.env) :: starEach [] X.env := by rfl) (hpl : (backTo pos (starEach [] X.env)).any (·.1) = false := by rfl) : VD X (.Call (.Name "abs" p) [e] [] pos) σ H (.int (i.natAbs : Int)) :=
  vd_callB1 call_abs hm (by decide +kernel) h (fun v H2 Q dv k => ⟨i, by rw [dv.int_v], by
    have z : (if i < 0 then -i else i) = (i.natAbs : Int) := by split <;> omega
    rw [z]
    exact k _ _ (Evl.Ex.refl _) (.int _)⟩) hg (by decide) (by decide) he hpl
theorem vd_all {bs : List Bool} (hm : X.mg "all" = none) (hc : X.calm = true) (h : VD X e σ H (.list (blD bs))) (hg : Gl X "all" := by rfl) (he : starEach [e] X.env = (false, eval e X.env) :: starEach [] X.env := by rfl) (hpl : (backTo pos (starEach [] X.env)).any (·.1) = false := by rfl) : VD X (.Call (.Name "all" p) [e] [] pos) σ H (.bool (bs.all id)) :=
  vd_callB1 (cr_all hc) hm (by decide +kernel) h (fun v H2 Q dv k => by
    obtain ⟨l, xs, ev, s, da⟩ := dv.lst_v
    exact ⟨l, bs, by rw [ev], by rw [← da.blD_v]; exact s, k _ _ (Evl.Ex.refl _) (.bl _)⟩) hg (by decide) (by decide) he hpl
/-- tuple(..), list(..) -/
theorem vd_tuple {ds : List PyData} (hm : X.mg "tuple" = none) (h : VD X e σ H (.list ds)) (hg : Gl X "tuple" := by rfl) (he : starEach [e] X.env = (false, eval e X.env) :: starEach [] X.env := by rfl) (hpl : (backTo pos (starEach [] X.env)).any (·.1) = false := by rfl) : VD X (.Call (.Name "tuple" p) [e] [] pos) σ H (.tuple ds) :=
  vd_callT1 call_tuple_of hm (by decide +kernel) h (fun v H2 Q dv k => by
    obtain ⟨l, xs, ev, s, da⟩ := dv.lst_v
    exact ⟨l, xs, by rw [ev], .inl ⟨s, fun n hn => k _ _ (Evl.Ex.new hn) (.tup (SqT.of upd_same) (da.up (Evl.Ex.new hn)))⟩⟩) hg (by decide) (by decide) he hpl
theorem vl_list {ds : List PyData} (hm : X.mg "list" = none) (h : VD X e σ H (.list ds)) (hg : Gl X "list" := by rfl) (he : starEach [e] X.env = (false, eval e X.env) :: starEach [] X.env := by rfl) (hpl : (backTo pos (starEach [] X.env)).any (·.1) = false := by rfl) : VL X (.Call (.Name "list" p) [e] [] pos) σ H ds := fun H1 e1 =>
  we_callT call_list_of hm (by decide +kernel) (wa_cons ((h H1 e1).mono fun v H2 ⟨e2, dv⟩ => wa_nil (by
    obtain ⟨l, xs, ev, s, da⟩ := dv.lst_v
    exact ⟨l, xs, by rw [ev], .inl s, fun n hn => ⟨Evl.Ex.trans e2 (Evl.Ex.new hn), n, xs, rfl, upd_same, da.up (Evl.Ex.new hn)⟩⟩)) he) hg (by decide) (by decide) he hpl
/-- gcd out of math -/
theorem vd_gcd {i j : Int} (hm : X.mg "gcd" = some (.builtin "math.gcd")) (ha : VD X a σ H (.int i)) (hb : VD X b σ H (.int j)) (hg : Gl X "gcd" := by rfl) (he : starEach [a, b] X.env = (false, eval a X.env) :: starEach [b] X.env := by rfl) (he2 : starEach [b] X.env = (false, eval b X.env) :: starEach [] X.env := by rfl) (hpl : (backTo pos (starEach [b] X.env)).any (·.1) = false := by rfl) : VD X (.Call (.Name "gcd" p) [a, b] [] pos) σ H (.int ((Nat.gcd i.natAbs j.natAbs : Nat) : Int)) := fun H1 e1 =>
  .of (pe_callBfun cr_gcd hg hm WA.pa (by decide) he hpl) ((va2 ha hb he he2 H1 e1).mono fun vs H2 ⟨e2, dvs⟩ => by
    cases dvs with
    | cons d1 r =>
      cases r with
      | cons d2 r =>
        cases r
        exact ⟨i, j, by rw [d1.int_v, d2.int_v], e2, .int _⟩)
/-! isinstance -/
def tyD : PyData → String
  | .none => "NoneType" | .bool _ => "bool" | .int _ => "int" | .str _ => "str" | .list _ => "list" | .tuple _ => "tuple" | .dict _ => "dict"
theorem tyD_ok {K : PySem.W.Frag} {v : V} {d : PyData} (h : Dp K H v d) : TyX K H v (.type (tyD d)) := by
  cases h with
  | non => exact .base .non
  | bl b => exact .base (.bl b)
  | int i => exact .base (.int i)
  | str x => exact .base (.str x)
  | lst s _ =>
    rcases s with (s | ⟨o, s⟩) | ⟨o, its, n, h1, h2, _⟩
    · exact .base (.lst s)
    · exact .base (.frz s)
    · exact .kList h1 h2
  | tup s _ =>
    rcases s with (s | ⟨o, s⟩) | ⟨o, its, n, h1, h2, _⟩
    · exact .base (.tup s)
    · exact .fTuple s
    · exact .kTuple h1 h2
/-- isinstance(e, T), T a built-in class by its name -/
theorem vd_isi {d : PyData} {T : Str} {n : String} {t : Bool} {j : Pos} (hm : X.mg "isinstance" = none) (hT : X.mg T = none) (hv : bootBuiltins T = some (.type n)) (h : VD X e σ H d) (hk : kitB (tyD d) n = some t) (hg : Gl X "isinstance" := by rfl) (hgT : Gl X T := by rfl) (hnT : T ≠ "__name__" := by decide) (hdT : (T == ("__debug__" : Str)) = false := by decide)
    (he : starEach [e, .Name T j] X.env = (false, eval e X.env) :: starEach [.Name T j] X.env := by rfl) (he2 : starEach [.Name T j] X.env = (false, eval (.Name T j) X.env) :: starEach [] X.env := by rfl) (hpl : (backTo pos (starEach [.Name T j] X.env)).any (·.1) = false := by rfl) :
    VD X (.Call (.Name "isinstance" p) [e, .Name T j] [] pos) σ H (.bool t) := fun H1 e1 =>
  we_callB call_isi hm (by decide +kernel) (wa_cons ((h H1 e1).mono fun v H2 ⟨e2, dv⟩ => wa_cons (we_ty hT hv (wa_nil ⟨v, .ty n, _, _, t, rfl, .ty n, tyD_ok dv, kit_ty hk, e2, .bl t⟩) hgT hnT hdT) he2) he) hg (by decide) (by decide) he hpl
/-- isinstance(e, (T, U)) -/
theorem vd_isi2 {d : PyData} {T U : Str} {n m : String} {t u : Bool} {j l tp : Pos} {z} (hm : X.mg "isinstance" = none) (hT : X.mg T = none) (hv : bootBuiltins T = some (.type n)) (hU : X.mg U = none) (hw : bootBuiltins U = some (.type m)) (h : VD X e σ H d) (hk : kitB (tyD d) n = some t) (hl : kitB (tyD d) m = some u)
    (hg : Gl X "isinstance" := by rfl) (hgT : Gl X T := by rfl) (hnT : T ≠ "__name__" := by decide) (hdT : (T == ("__debug__" : Str)) = false := by decide) (hgU : Gl X U := by rfl) (hnU : U ≠ "__name__" := by decide) (hdU : (U == ("__debug__" : Str)) = false := by decide)
    (he : starEach [e, .Tuple [.Name T j, .Name U l] z tp] X.env = (false, eval e X.env) :: starEach [.Tuple [.Name T j, .Name U l] z tp] X.env := by rfl) (he2 : starEach [.Tuple [.Name T j, .Name U l] z tp] X.env = (false, eval (.Tuple [.Name T j, .Name U l] z tp) X.env) :: starEach [] X.env := by rfl) (hpl : (backTo pos (starEach [.Tuple [.Name T j, .Name U l] z tp] X.env)).any (·.1) = false := by rfl)
    (ht1 : starEach [.Name T j, .Name U l] X.env = (false, eval (.Name T j) X.env) :: starEach [.Name U l] X.env := by rfl) (ht2 : starEach [.Name U l] X.env = (false, eval (.Name U l) X.env) :: starEach [] X.env := by rfl) :
    VD X (.Call (.Name "isinstance" p) [e, .Tuple [.Name T j, .Name U l] z tp] [] pos) σ H (.bool (t || u)) := fun H1 e1 =>
  we_callB call_isiT hm (by decide +kernel) (wa_cons ((h H1 e1).mono fun v H2 ⟨e2, dv⟩ => wa_cons (.of (pe_tup WA.pa) (wa_cons (we_ty hT hv (wa_cons (we_ty hU hw (wa_nil ⟨by show 2 ≤ sizeLine; decide, fun tq hq => wa_nil
    ⟨v, tq, [.ty n, .ty m], _, [.type n, .type m], t || u, rfl, upd_same, .cons (.ty n) (.cons (.ty m) .nil), tyD_ok (dv.up (Evl.Ex.new hq)), kitAny_cons (kit_ty hk) (fun et => kitAny_cons (kit_ty hl) (fun eu => by rw [et, eu]; exact kitAny_nil) fun eu => by rw [et, eu]; rfl) (fun et => by rw [et]; rfl), Evl.Ex.trans e2 (Evl.Ex.new hq), .bl _⟩⟩) hgU hnU hdU) ht2) hgT hnT hdT) ht1)) he2) he) hg (by decide) (by decide) he hpl
/-! is -/
theorem vt_isN {d : PyData} {j} (h : VD X e σ H d) : VT X (.Compare e [.Is] [.Constant .none j p] pos) σ H (match d with | .none => true | _ => false) := vt_cmp op_isN (nomark _) h vd_non fun v u H2 Q dv du k => ⟨du.non_v, by
    have z := k H2 (Evl.Ex.refl H2)
    cases dv with
    | non => exact z
    | bl _ => exact z
    | int _ => exact z
    | str _ => exact z
    | lst _ _ => exact z
    | tup _ _ => exact z⟩
/-- what True and False are not -/
def rIsOther : R2 := fun x y H Q => ((∃ i, x = .int i) ∨ (∃ z, x = .str z)) ∧ (∃ b, y = .bl b) ∧ Q (.bl false) H
theorem op_isOther : OpR X (compareOp .Is) rIsOther := by
  intro pins s σ H x y v u Q I rx ry ⟨hx, ⟨b, hy⟩, q⟩
  subst hy
  cases (show u = Value.bool b from ry)
  rcases hx with ⟨i, rfl⟩ | ⟨z, rfl⟩
  · obtain ⟨t, rfl⟩ := rx
    exact wpAny_is_other rfl (fun z => nomatch z) ⟨.bl false, H, I, rfl, q⟩
  · obtain ⟨t, rfl⟩ := rx
    exact wpAny_is_other rfl (fun z => nomatch z) ⟨.bl false, H, I, rfl, q⟩
theorem vt_isIB {i : Int} {t : Bool} {j} (h : VD X e σ H (.int i)) : VT X (.Compare e [.Is] [.Constant (.bool t) j p] pos) σ H false := vt_cmp op_isOther (nomark _) h vd_bl fun v u H2 Q dv du k => ⟨.inl ⟨i, dv.int_v⟩, ⟨t, du.bl_v⟩, k H2 (Evl.Ex.refl H2)⟩
theorem vt_isSB {i : Str} {t : Bool} {j} (h : VD X e σ H (.str i)) : VT X (.Compare e [.Is] [.Constant (.bool t) j p] pos) σ H false := vt_cmp op_isOther (nomark _) h vd_bl fun v u H2 Q dv du k => ⟨.inr ⟨i, dv.str_v⟩, ⟨t, du.bl_v⟩, k H2 (Evl.Ex.refl H2)⟩
/-! sep.join(xs) -/
theorem vd_join {z : Str} {xs : List Str} (ho : VD X o σ H (.str z)) (h : VD X e σ H (.list (strD xs))) (hz : (xs.map (·.length)).sum + xs.length * z.length ≤ 16777216) (hs : starEach [e] X.env = [(false, eval e X.env)] := by rfl) (hbase : attributeBase o "join" X.env (eval o X.env) = eval o X.env := by rfl) (hline : (apos.endLine == pos.line) = true := by rfl) :
    VD X (.Call (.Attribute o "join" apos) [e] [] pos) σ H (.str (Txt.join z xs)) := fun H1 e1 =>
  .of (pe_join WE.pe WE.pe hs hbase hline) ((ho H1 e1).mono fun v H2 ⟨e2, dv⟩ => ⟨⟨z, dv.str_v⟩, (h H2 (Evl.Ex.trans e1 e2)).mono fun u H3 ⟨e3, du⟩ => by
    obtain ⟨l, ys, ev, s, da⟩ := du.lst_v
    exact ⟨z, l, xs, dv.str_v, by rw [ev], .inl (by rw [← da.strD_v]; exact s), hz, Evl.Ex.trans e2 e3, .str _⟩⟩)
/-! fields -/
theorem we_fld {f : Str} (h : WE X e σ H fun v H1 => ∃ a C dx fs w, v = .ref a ∧ H1 a = some (.ins C dx fs) ∧ Cls X.K C ∧ NoAttr X.K C f ∧ fs.lookup f = some w ∧ Q w H1) (hb : attributeBase e f X.env (eval e X.env) = eval e X.env := by rfl) : WE X (.Attribute e f pos) σ H Q := .of (pe_fld WE.pe hb) h
end
end G

/-! # P4: statements -/
namespace G
open PySem PySem.Spec PyProof.Rows L2
section
variable {X : Cx} {e o a b c : Expr} {es : List Expr} {σ : St} {H : Hp} {Q : VK} {pos p q apos : Pos} {x y : Str} {st : Stmt} {rest body els : List Stmt} {D : Ends}
theorem ws_nil (h : D.nx σ H) : WS X [] D σ H := .of pss_nil h
theorem ws_cons (h : W1 X st { D with nx := WS X rest D } σ H) : WS X (st :: rest) D σ H := .of (pss_cons W1.ps WS.ps) h
theorem ws_one (h : W1 X st D σ H) : WS X [st] D σ H := .of (pss_one W1.ps) h
theorem ws_pass (h : WS X rest D σ H) : WS X (.Pass pos :: rest) D σ H := ws_cons (.of ps_pass h)
theorem ws_ret (h : WE X e σ H D.rt) : WS X (.Return (some e) pos :: rest) D σ H := ws_cons (.of (ps_ret WE.pe) h)
theorem ws_retD {d : PyData} (h : VD X e σ H d) (k : ∀ v H1, Ex H H1 → Dp X.K H1 v d → D.rt v H1) : WS X (.Return (some e) pos :: rest) D σ H := ws_ret (h.use k)
theorem ws_retL {d : List PyData} (h : VL X e σ H d) (k : ∀ v H1, Ex H H1 → DpL X.K H1 v d → D.rt v H1) : WS X (.Return (some e) pos :: rest) D σ H := ws_ret (h.use k)
theorem ws_expr (h : WE X e σ H fun _ H1 => WS X rest D σ H1) (hs : swapsWith e none pos.line X.env = pure false := by rfl) : WS X (.Expr e pos :: rest) D σ H := ws_cons (.of (ps_expr WE.pe hs) h)
theorem ws_set (i : Nat) (hN : X.N.Nodup) (h : WE X e σ H fun v H1 => WS X rest D (σ.set i (some v)) H1) (hi : X.N[i]? = some x := by rfl) (hx : Loc X.env.scope x := by first | exact Or.inl rfl | exact Or.inr rfl) (hs : swapsWith e (some (.Name x p)) pos.line X.env = pure false := by rfl)
    (hf : X.fn x = true ∨ X.env.scope.names.lookup x = some .local := by first | exact .inl rfl | exact .inr rfl) : WS X (.Assign [.Name x p] e pos :: rest) D σ H := ws_cons (.of (ps_set hN hi hx WE.pe hs hf) h)
theorem ws_setD {d : PyData} (i : Nat) (hN : X.N.Nodup) (h : VD X e σ H d) (k : ∀ v H1, Ex H H1 → Dp X.K H1 v d → WS X rest D (σ.set i (some v)) H1) (hi : X.N[i]? = some x := by rfl) (hx : Loc X.env.scope x := by first | exact Or.inl rfl | exact Or.inr rfl) (hs : swapsWith e (some (.Name x p)) pos.line X.env = pure false := by rfl)
    (hf : X.fn x = true ∨ X.env.scope.names.lookup x = some .local := by first | exact .inl rfl | exact .inr rfl) : WS X (.Assign [.Name x p] e pos :: rest) D σ H := ws_set i hN (h.use k) hi hx hs hf
theorem ws_setL {d : List PyData} (i : Nat) (hN : X.N.Nodup) (h : VL X e σ H d) (k : ∀ v H1, Ex H H1 → DpL X.K H1 v d → WS X rest D (σ.set i (some v)) H1) (hi : X.N[i]? = some x := by rfl) (hx : Loc X.env.scope x := by first | exact Or.inl rfl | exact Or.inr rfl) (hs : swapsWith e (some (.Name x p)) pos.line X.env = pure false := by rfl)
    (hf : X.fn x = true ∨ X.env.scope.names.lookup x = some .local := by first | exact .inl rfl | exact .inr rfl) : WS X (.Assign [.Name x p] e pos :: rest) D σ H := ws_set i hN (h.use k) hi hx hs hf
/-- an int, a text, a bool: the very value is known -/
theorem ws_setI {d : Int} (i : Nat) (hN : X.N.Nodup) (h : VD X e σ H (.int d)) (k : ∀ H1, Ex H H1 → WS X rest D (σ.set i (some (.int d))) H1) (hi : X.N[i]? = some x := by rfl) (hx : Loc X.env.scope x := by first | exact Or.inl rfl | exact Or.inr rfl) (hs : swapsWith e (some (.Name x p)) pos.line X.env = pure false := by rfl)
    (hf : X.fn x = true ∨ X.env.scope.names.lookup x = some .local := by first | exact .inl rfl | exact .inr rfl) : WS X (.Assign [.Name x p] e pos :: rest) D σ H := ws_setD i hN h (fun v H1 e1 dv => by rw [dv.int_v]; exact k H1 e1) hi hx hs hf
theorem ws_setS {d : Str} (i : Nat) (hN : X.N.Nodup) (h : VD X e σ H (.str d)) (k : ∀ H1, Ex H H1 → WS X rest D (σ.set i (some (.str d))) H1) (hi : X.N[i]? = some x := by rfl) (hx : Loc X.env.scope x := by first | exact Or.inl rfl | exact Or.inr rfl) (hs : swapsWith e (some (.Name x p)) pos.line X.env = pure false := by rfl)
    (hf : X.fn x = true ∨ X.env.scope.names.lookup x = some .local := by first | exact .inl rfl | exact .inr rfl) : WS X (.Assign [.Name x p] e pos :: rest) D σ H := ws_setD i hN h (fun v H1 e1 dv => by rw [dv.str_v]; exact k H1 e1) hi hx hs hf
theorem ws_setB {d : Bool} (i : Nat) (hN : X.N.Nodup) (h : VD X e σ H (.bool d)) (k : ∀ H1, Ex H H1 → WS X rest D (σ.set i (some (.bl d))) H1) (hi : X.N[i]? = some x := by rfl) (hx : Loc X.env.scope x := by first | exact Or.inl rfl | exact Or.inr rfl) (hs : swapsWith e (some (.Name x p)) pos.line X.env = pure false := by rfl)
    (hf : X.fn x = true ∨ X.env.scope.names.lookup x = some .local := by first | exact .inl rfl | exact .inr rfl) : WS X (.Assign [.Name x p] e pos :: rest) D σ H := ws_setD i hN h (fun v H1 e1 dv => by rw [dv.bl_v]; exact k H1 e1) hi hx hs hf
/-- a, b = e1, e2 (local names) -/
theorem ws_par (i j : Nat) {px py pt : Pos} {kt k2 pt2} (hc : X.calm = true) (hN : X.N.Nodup) (h : WE X a σ H fun v H1 => WE X b σ H1 fun w H2 => WS X rest D ((σ.set i (some v)).set j (some w)) H2) (hi : X.N[i]? = some x := by rfl) (hj : X.N[j]? = some y := by rfl) (hij : i ≠ j := by decide)
    (hx : X.env.scope.names.lookup x = some .local := by rfl) (hy : X.env.scope.names.lookup y = some .local := by rfl) (hw : swappedStores [.Tuple [.Name x px, .Name y py] kt pt] (.Tuple [a, b] k2 pt2) X.env = pure (some [x, y]) := by rfl)
    (hs : swapsWithSole [.Tuple [.Name x px, .Name y py] kt pt] (.Tuple [a, b] k2 pt2) pos.line X.env = pure false := by rfl) (he : starEach [a, b] X.env = (false, eval a X.env) :: starEach [b] X.env := by rfl) (he2 : starEach [b] X.env = (false, eval b X.env) :: starEach [] X.env := by rfl) :
    WS X (.Assign [.Tuple [.Name x px, .Name y py] kt pt] (.Tuple [a, b] k2 pt2) pos :: rest) D σ H :=
  ws_cons (.of (ps_par hc hN hi hj hij hx hy WA.pa hw hs) (wa_cons (h.mono fun v H1 z => wa_cons (z.mono fun w H2 z2 => wa_nil ⟨v, w, rfl, z2⟩) he2) he))
/-- a, b = e, e a tuple of two -/
theorem ws_unp2 (i j : Nat) {px py pt : Pos} {kt} (hc : X.calm = true) (hN : X.N.Nodup) (h : WE X e σ H fun v H1 => ∃ l u w, v = .ref l ∧ SqT X.K H1 l [u, w] ∧ WS X rest D ((σ.set i (some u)).set j (some w)) H1) (hi : X.N[i]? = some x := by rfl) (hj : X.N[j]? = some y := by rfl)
    (hx : Loc X.env.scope x := by first | exact Or.inl rfl | exact Or.inr rfl) (hy : Loc X.env.scope y := by first | exact Or.inl rfl | exact Or.inr rfl) (hs : swapsWithSole [.Tuple [.Name x px, .Name y py] kt pt] e pos.line X.env = pure false := by rfl) (hw : swappedStores [.Tuple [.Name x px, .Name y py] kt pt] e X.env = pure none := by rfl)
    (hf : X.fn x = true ∨ X.env.scope.names.lookup x = some .local := by first | exact .inl rfl | exact .inr rfl) (hf2 : X.fn y = true ∨ X.env.scope.names.lookup y = some .local := by first | exact .inl rfl | exact .inr rfl)
    (h1 : (assignEach [.Tuple [.Name x px, .Name y py] kt pt] X.env).map (·.2) = [assign (.Tuple [.Name x px, .Name y py] kt pt) X.env] := by rfl) (h2 : (assignEach [.Name x px, .Name y py] X.env).map (·.2) = assign (.Name x px) X.env :: (assignEach [.Name y py] X.env).map (·.2) := by rfl) (h3 : (assignEach [.Name y py] X.env).map (·.2) = assign (.Name y py) X.env :: (assignEach [] X.env).map (·.2) := by rfl)
    (hn : (assignEach [.Name x px, .Name y py] X.env).length = 2 := by rfl) (hst : (assignEach [.Name x px, .Name y py] X.env).findIdx? (·.1) = none := by rfl) :
    WS X (.Assign [.Tuple [.Name x px, .Name y py] kt pt] e pos :: rest) D σ H :=
  ws_cons (.of (ps_asg WE.pe (pg_tup hc (pgs_cons (pg_name hN hi hx hf) (pgs_cons (pg_name hN hj hy hf2) pgs_nil h3) h2) hn hst) hs hw h1) (h.mono fun v H1 ⟨l, u, w, ev, s, k⟩ => ⟨l, [u, w], ev, s, rfl, u, [w], rfl, w, [], rfl, rfl, k⟩))
/-- x += e -/
theorem ws_augI (i : Nat) {n m : Int} (hN : X.N.Nodup) (hσ : σ[i]? = some (some (.int n))) (h : VD X e σ H (.int m)) (k : ∀ H1, Ex H H1 → WS X rest D (σ.set i (some (.int (n + m)))) H1) (hi : X.N[i]? = some x := by rfl) (hx : Loc X.env.scope x := by first | exact Or.inl rfl | exact Or.inr rfl)
    (hf : X.fn x = true ∨ X.env.scope.names.lookup x = some .local := by first | exact .inl rfl | exact .inr rfl) : WS X (.AugAssign (.Name x p) .Add e pos :: rest) D σ H := ws_cons (.of (ps_aug hN hi hx WE.pe ip_add hf) ⟨.int n, hσ, h.use fun v H1 e1 dv => ⟨n, m, rfl, dv.int_v, k H1 e1⟩⟩)
theorem ws_if {t : Bool} (h : VT X c σ H t) (h1 : t = true → ∀ H1, Ex H H1 → WS X body { D with nx := WS X rest D } σ H1) (h2 : t = false → ∀ H1, Ex H H1 → WS X els { D with nx := WS X rest D } σ H1) : WS X (.If c body els pos :: rest) D σ H :=
  ws_cons (.of (ps_if WT.pt WS.ps WS.ps) (h.use fun H1 e1 => by
    cases t with
    | true => exact iteT (h1 rfl H1 e1)
    | false => exact iteF (h2 rfl H1 e1)))
/-- .. by a test that changes things -/
theorem ws_ifW (h : WT X c σ H fun t H1 => if t = true then WS X body { D with nx := WS X rest D } σ H1 else WS X els { D with nx := WS X rest D } σ H1) : WS X (.If c body els pos :: rest) D σ H := ws_cons (.of (ps_if WT.pt WS.ps WS.ps) h)
/-- xs.append(e) -/
theorem we_append {l : Addr} {xs : List V} (ho : WE X o σ H fun v H1 => v = .ref l ∧ H1 l = some (.lst xs) ∧ WE X e σ H1 fun w H2 => H2 l = some (.lst xs) ∧ xs.length < 100000 ∧ Q .non (upd H2 l (.lst (xs ++ [w])))) (hbase : attributeBase o "append" X.env (eval o X.env) = eval o X.env := by rfl)
    (hfew : ((backTo pos (starEach [e] X.env)).all (fun x => !x.1) && (backToKw pos (keywordEach [] X.env)).all (fun x => x.1.isSome) && decide ([e].length + ([] : List Keyword).length + (if ([] : List Keyword).isEmpty then 0 else 1) < 30)) = true := by rfl)
    (hline : (apos.endLine == pos.line) = true := by rfl) (hs : starEach [e] X.env = (false, eval e X.env) :: starEach [] X.env := by rfl) (hplain : (backTo pos (starEach [] X.env)).any (·.1) = false := by rfl) : WE X (.Call (.Attribute o "append" apos) [e] [] pos) σ H Q :=
  .of (pe_bm PySem.F.plainAttrs_list PySem.F.slot_list_append PySem.F.type_list_append mt_append WE.pe WA.pa hbase hfew hline hs hplain) (ho.mono fun v H1 ⟨ev, hl, k⟩ => ⟨by rw [ev]; exact .inl ⟨rfl, _, SqL.of hl⟩, wa_cons (k.mono fun w H2 ⟨h2, hz, q⟩ => wa_nil ⟨l, xs, w, ev, rfl, h2, Nat.lt_of_lt_of_le hz (by decide), q⟩) hs⟩)
theorem we_extend {l : Addr} {xs : List V} (ho : WE X o σ H fun v H1 => v = .ref l ∧ H1 l = some (.lst xs) ∧ WE X e σ H1 fun w H2 => ∃ m ys, w = .ref m ∧ H2 l = some (.lst xs) ∧ H2 m = some (.lst ys) ∧ xs.length + ys.length ≤ sizeLine ∧ Q .non (upd H2 l (.lst (xs ++ ys)))) (hbase : attributeBase o "extend" X.env (eval o X.env) = eval o X.env := by rfl)
    (hfew : ((backTo pos (starEach [e] X.env)).all (fun x => !x.1) && (backToKw pos (keywordEach [] X.env)).all (fun x => x.1.isSome) && decide ([e].length + ([] : List Keyword).length + (if ([] : List Keyword).isEmpty then 0 else 1) < 30)) = true := by rfl)
    (hline : (apos.endLine == pos.line) = true := by rfl) (hs : starEach [e] X.env = (false, eval e X.env) :: starEach [] X.env := by rfl) (hplain : (backTo pos (starEach [] X.env)).any (·.1) = false := by rfl) : WE X (.Call (.Attribute o "extend" apos) [e] [] pos) σ H Q :=
  .of (pe_bm PySem.F.plainAttrs_list PySem.F.slot_list_extend PySem.F.type_list_extend mt_extend WE.pe WA.pa hbase hfew hline hs hplain) (ho.mono fun v H1 ⟨ev, hl, k⟩ => ⟨by rw [ev]; exact .inl ⟨rfl, _, SqL.of hl⟩, wa_cons (k.mono fun w H2 ⟨m, ys, ew, h2, h3, hz, q⟩ => wa_nil ⟨l, m, xs, ys, ev, by rw [ew], h2, h3, hz, q⟩) hs⟩)
/-! loops -/
theorem ws_while (Pv : St → Hp → Prop) (μ : St → Hp → Nat) (hp : PassesOwn (model X.prog X.w) X.A X.env X.xe) (h0 : Pv σ H)
    (hs : ∀ σ H, Pv σ H → WT X c σ H fun t H1 => if t = true then WS X body { D with nx := fun σ' H' => Pv σ' H' ∧ μ σ' H' < μ σ H, ct := fun σ' H' => Pv σ' H' ∧ μ σ' H' < μ σ H, bk := WS X rest D } σ H1 else WS X rest D σ H1) : WS X (.While c body [] pos :: rest) D σ H :=
  ws_cons (.of (ps_while hp WT.pt WS.ps) (while_by (D := { D with nx := WS X rest D }) Pv μ h0 hs fun _ _ _ _ k z => z.mono k))
theorem ws_forT (i : Nat) {l : Addr} {xs : List V} (Pv : Nat → St → Hp → Prop) (hp : PassesOwn (model X.prog X.w) X.A X.env X.xe) (hc : X.calm = true) (hN : X.N.Nodup) (h : WE X e σ H fun v H1 => v = .ref l ∧ SqT X.K H1 l xs ∧ Pv 0 σ H1) (hl : ∀ i σ H, i ≤ xs.length → Pv i σ H → SqT X.K H l xs)
    (hs : ∀ n w σ' H', xs[n]? = some w → Pv n σ' H' → WS X body { D with nx := Pv (n + 1), ct := Pv (n + 1), bk := WS X rest D } (σ'.set i (some w)) H') (hd : ∀ σ' H', Pv xs.length σ' H' → WS X rest D σ' H')
    (hi : X.N[i]? = some x := by rfl) (hx : Loc X.env.scope x := by first | exact Or.inl rfl | exact Or.inr rfl) (hf : X.fn x = true ∨ X.env.scope.names.lookup x = some .local := by first | exact .inl rfl | exact .inr rfl) (hfs : ∀ z, foldedSetIterable e X.env z = pure z := by intro _; rfl) : WS X (.For (.Name x p) e body [] pos :: rest) D σ H :=
  ws_cons (.of (ps_for hp hc (pi_tup WE.pe) (pg_name hN hi hx hf) WS.ps hfs) (h.mono fun v H1 ⟨ev, s, p0⟩ => ⟨l, ev, ⟨xs, s⟩, for_tup (D := { D with nx := WS X rest D }) Pv p0 hl (fun n w σ' H' hw pw => hs n w σ' H' hw pw) hd⟩))
theorem ws_forL (i : Nat) {l : Addr} {xs : List V} (Pv : Nat → St → Hp → Prop) (hp : PassesOwn (model X.prog X.w) X.A X.env X.xe) (hc : X.calm = true) (hN : X.N.Nodup) (h : WE X e σ H fun v H1 => v = .ref l ∧ SqL X.K H1 l xs ∧ Pv 0 σ H1) (hl : ∀ i σ H, i ≤ xs.length → Pv i σ H → SqL X.K H l xs)
    (hs : ∀ n w σ' H', xs[n]? = some w → Pv n σ' H' → WS X body { D with nx := Pv (n + 1), ct := Pv (n + 1), bk := WS X rest D } (σ'.set i (some w)) H') (hd : ∀ σ' H', Pv xs.length σ' H' → WS X rest D σ' H')
    (hi : X.N[i]? = some x := by rfl) (hx : Loc X.env.scope x := by first | exact Or.inl rfl | exact Or.inr rfl) (hf : X.fn x = true ∨ X.env.scope.names.lookup x = some .local := by first | exact .inl rfl | exact .inr rfl) (hfs : ∀ z, foldedSetIterable e X.env z = pure z := by intro _; rfl) : WS X (.For (.Name x p) e body [] pos :: rest) D σ H :=
  ws_cons (.of (ps_for hp hc (pi_list WE.pe) (pg_name hN hi hx hf) WS.ps hfs) (h.mono fun v H1 ⟨ev, s, p0⟩ => ⟨l, ev, ⟨xs, s⟩, for_list (D := { D with nx := WS X rest D }) Pv p0 hl (fun n w σ' H' hw pw => hs n w σ' H' hw pw) hd⟩))
theorem ws_forR (i : Nat) {n : Int} {pr pc : Pos} (Pv : Nat → St → Hp → Prop) (hp : PassesOwn (model X.prog X.w) X.A X.env X.xe) (hc : X.calm = true) (hN : X.N.Nodup) (hm : X.mg "range" = none) (h : WE X e σ H fun v H1 => v = .int n ∧ Pv 0 σ H1) (hn : -(2 ^ 62) ≤ n ∧ n < 2 ^ 62)
    (hs : ∀ (t : Nat) σ' H', t < n.toNat → Pv t σ' H' → WS X body { D with nx := Pv (t + 1), ct := Pv (t + 1), bk := WS X rest D } (σ'.set i (some (.int t))) H') (hd : ∀ σ' H', Pv n.toNat σ' H' → WS X rest D σ' H') (hg : Gl X "range" := by rfl) (he : starEach [e] X.env = [(false, eval e X.env)] := by rfl) (he2 : starEach [e] X.env = (false, eval e X.env) :: starEach [] X.env := by rfl)
    (hi : X.N[i]? = some x := by rfl) (hx : Loc X.env.scope x := by first | exact Or.inl rfl | exact Or.inr rfl) (hf : X.fn x = true ∨ X.env.scope.names.lookup x = some .local := by first | exact .inl rfl | exact .inr rfl) : WS X (.For (.Name x p) (.Call (.Name "range" pr) [e] [] pc) body [] pos :: rest) D σ H :=
  ws_cons (.of (ps_for hp hc (pi_range1 hg hm WA.pa he) (pg_name hN hi hx hf) WS.ps) (wa_cons (h.mono fun v H1 ⟨ev, p0⟩ => wa_nil ⟨n, by rw [ev], hn.1, hn.2, for_range (D := { D with nx := WS X rest D }) Pv p0 (fun t σ' H' ht pw => by rw [Int.zero_add]; exact hs t σ' H' ht pw) hd⟩) he2))
/-! a field stored -/
theorem ws_fld {f : Str} {pa : Pos} (h : WE X e σ H fun w H1 => WE X o σ H1 fun v H2 => ∃ l C dx fs, v = .ref l ∧ H2 l = some (.ins C dx fs) ∧ Cls X.K C ∧ NoAttr X.K C f ∧ fs.length < 1000 ∧ WS X rest D σ (upd H2 l (.ins C dx (putF f w fs)))) (hs : swapsWith e (some (.Attribute o f pa)) pos.line X.env = pure false := by rfl) : WS X (.Assign [.Attribute o f pa] e pos :: rest) D σ H :=
  ws_cons (.of (ps_fld WE.pe WE.pe hs) h)
theorem ws_fldAdd {f : Str} {pa : Pos} (h : WE X o σ H fun v H1 => ∃ l C dx fs n, v = .ref l ∧ H1 l = some (.ins C dx fs) ∧ Cls X.K C ∧ NoAttr X.K C f ∧ fs.lookup f = some (.int n) ∧ WE X e σ H1 fun w H2 => ∃ m dx' fs', w = .int m ∧ H2 l = some (.ins C dx' fs') ∧ fs'.length < 1000 ∧ WS X rest D σ (upd H2 l (.ins C dx' (putF f (.int (n + m)) fs')))) :
    WS X (.AugAssign (.Attribute o f pa) .Add e pos :: rest) D σ H := ws_cons (.of (ps_fldaug WE.pe WE.pe in_add) (h.mono fun v H1 ⟨l, C, dx, fs, n, ev, hl, c, na, hf, k⟩ => ⟨l, C, dx, fs, .int n, ev, hl, c, na, hf, k.mono fun w H2 ⟨m, dx', fs', ew, h2, hz, q⟩ => ⟨n, m, rfl, ew, dx', fs', h2, hz, q⟩⟩))
theorem ws_fldSub {f : Str} {pa : Pos} (h : WE X o σ H fun v H1 => ∃ l C dx fs n, v = .ref l ∧ H1 l = some (.ins C dx fs) ∧ Cls X.K C ∧ NoAttr X.K C f ∧ fs.lookup f = some (.int n) ∧ WE X e σ H1 fun w H2 => ∃ m dx' fs', w = .int m ∧ H2 l = some (.ins C dx' fs') ∧ fs'.length < 1000 ∧ WS X rest D σ (upd H2 l (.ins C dx' (putF f (.int (n - m)) fs')))) :
    WS X (.AugAssign (.Attribute o f pa) .Sub e pos :: rest) D σ H := ws_cons (.of (ps_fldaug WE.pe WE.pe in_sub) (h.mono fun v H1 ⟨l, C, dx, fs, n, ev, hl, c, na, hf, k⟩ => ⟨l, C, dx, fs, .int n, ev, hl, c, na, hf, k.mono fun w H2 ⟨m, dx', fs', ew, h2, hz, q⟩ => ⟨n, m, rfl, ew, dx', fs', h2, hz, q⟩⟩))
/-- what can't be reached -/
theorem ws_absurd (h : False) : WS X rest D σ H := h.elim
end
/-! ### a def of the text -/
/-- one def: its promise by its body -/
theorem fd_of {g : Gd} {x qual : Str} {st : Stmt} {f : Addr} {fd : FuncData} {N ps : List Str} {k : Nat} {sp : Sp} (F : FunD g.K x qual (defArgs st) (defBody st) (defScope st) [] [] f fd) (hm : g.mg x = some (.ref f)) (S : FnScope N ps (defScope st)) (len : ∀ vs H Q E, sp vs H Q E → vs.length = ps.length)
    (hb : ∀ (kV doc pm : Value) (an : Option Addr) (cdv ct : Value) (us : List Value), us.length = ps.length → bindArgs (PySem.W.fnOf x qual (defArgs st) (defBody st) (defScope st) .none kV doc pm an cdv ct) ⟨us, []⟩ = pure (ps.zip us))
    (body : ∀ (cdv : Value) (A : Around) (outer : List Env) (s : Shared) (H : Hp) (vs : List V) (Q : VK) (E : XK), Room k (A.deeper (envOfC qual (defScope st) s.heap.objs.size f cdv)) → sp vs H Q E →
      WS (cxOf (CXg g) g.P g.w g.K g.mg g.base N qual (defScope st) f cdv A outer s H E) (defBody st) { nx := fun _ H' => Q .non H', rt := Q } (L2.start N vs) H) : Fd g x ps (k + 1) sp := by
  refine ⟨f, fd, [], F.ok S len fun cdv A outer s H vs Q E hr h => ⟨_, WS.ps, body cdv A outer s H vs Q E hr h⟩, hm, F.kp, .nil, fun s us _ hl => ?_⟩
  rw [List.append_nil] at hl ⊢
  exact FunD.bindsA (ps := ps) F hb s us hl
end G

/-! # P5: comprehensions over data; defs by fuel -/
namespace G
open PySem PySem.Spec PyProof.Rows L2
/-- a def as the head tells it -/
abbrev FT (g : Gd) (x : Str) (st : Stmt) : Prop := ∃ f fd, FunD g.K x x (defArgs st) (defBody st) (defScope st) [] [] f fd ∧ g.mg x = some (.ref f)
/-- those of fs that bs keeps -/
def sel : List Bool → List PyData → List PyData
  | true :: bs, f :: fs => f :: sel bs fs
  | false :: bs, _ :: fs => sel bs fs
  | _, _ => []
theorem sel_app : ∀ (bs : List Bool) (fs : List PyData) (b : Bool) (f : PyData), bs.length = fs.length → sel (bs ++ [b]) (fs ++ [f]) = sel bs fs ++ (if b = true then [f] else [])
  | [], [], b, f, _ => by cases b <;> rfl
  | [], _ :: _, _, _, h => by simp at h
  | _ :: _, [], _, _, h => by simp at h
  | true :: bs, x :: fs, b, f, h => by
    show x :: sel (bs ++ [b]) (fs ++ [f]) = x :: (sel bs fs ++ _)
    rw [sel_app bs fs b f (by simpa using h)]
  | false :: bs, x :: fs, b, f, h => by
    show sel (bs ++ [b]) (fs ++ [f]) = sel bs fs ++ _
    rw [sel_app bs fs b f (by simpa using h)]
theorem sel_len : ∀ (bs : List Bool) (fs : List PyData), (sel bs fs).length ≤ fs.length
  | [], _ => Nat.zero_le _
  | true :: _, [] => Nat.le_refl _
  | false :: _, [] => Nat.le_refl _
  | true :: bs, _ :: fs => Nat.succ_le_succ (sel_len bs fs)
  | false :: bs, _ :: fs => Nat.le_succ_of_le (sel_len bs fs)
theorem sel_true : ∀ fs : List PyData, sel (List.replicate fs.length true) fs = fs
  | [] => rfl
  | f :: fs => by
    show f :: sel (List.replicate fs.length true) fs = _
    rw [sel_true fs]
theorem sel_imm : ∀ (bs : List Bool) (fs : List PyData), immAll fs = true → immAll (sel bs fs) = true
  | [], _, _ => rfl
  | true :: _, [], _ => rfl
  | false :: _, [], _ => rfl
  | true :: bs, f :: fs, h => by
    simp only [immAll, Bool.and_eq_true] at h
    simp only [sel, immAll, Bool.and_eq_true]
    exact ⟨h.1, sel_imm bs fs h.2⟩
  | false :: bs, f :: fs, h => by
    simp only [immAll, Bool.and_eq_true] at h
    simp only [sel]
    exact sel_imm bs fs h.2
/-- what the comprehension has made ahead of turn i -/
def Lw (K : PySem.W.Frag) (H1 : Hp) (D : Addr) (bs : List Bool) (fs : List PyData) (i : Nat) (H' : Hp) : Prop := H1 D = none ∧ Ex H1 H' ∧ ∃ vs, H' D = some (.lst vs) ∧ DpAll K H' vs (sel (bs.take i) (fs.take i))
theorem take_next {α : Type} {l : List α} {i : Nat} {x : α} (h : l[i]? = some x) : l.take (i + 1) = l.take i ++ [x] := by
  rw [List.take_add_one, h]
  rfl
theorem lw_turn {K : PySem.W.Frag} {H1 H' : Hp} {D : Addr} {bs : List Bool} {fs : List PyData} {i : Nat} {b : Bool} {f : PyData} {t : TT} {te : TE} {σ : St} (hz : fs.length ≤ 100000) (hl : bs.length = fs.length) (im : immAll fs = true) (p : Lw K H1 D bs fs i H') (hb : bs[i]? = some b) (hf : fs[i]? = some f)
    (ht : ∀ Q : Bool → Hp → Prop, (∀ H2, Ex H' H2 → Q b H2) → t σ H' Q) (he : b = true → ∀ H2, Ex H' H2 → ∀ Q : VK, (∀ w H3, Ex H2 H3 → Dp K H3 w f → Q w H3) → te σ H2 Q) :
    t σ H' fun c H3 => if c = true then te σ H3 fun y H4 => ∃ acc, H4 D = some (.lst acc) ∧ acc.length < sizeLine ∧ Lw K H1 D bs fs (i + 1) (upd H4 D (.lst (acc ++ [y]))) else Lw K H1 D bs fs (i + 1) H3 := by
  obtain ⟨n0, e1, vs, hD, hv⟩ := p
  have hi : i < fs.length := (List.getElem?_eq_some_iff.mp hf).1
  have eq : sel (bs.take (i + 1)) (fs.take (i + 1)) = sel (bs.take i) (fs.take i) ++ (if b = true then [f] else []) := by
    rw [take_next hb, take_next hf]
    exact sel_app _ _ _ _ (by rw [List.length_take, List.length_take, hl])
  have iT : immAll (sel (bs.take i) (fs.take i)) = true := sel_imm _ _ (immAll_mem fun d hd => imm_mem im d (List.mem_of_mem_take hd))
  refine ht _ fun H2 e2 => ?_
  cases b with
  | true =>
    refine iteT (he rfl H2 e2 _ fun w H3 e3 dw => ⟨vs, e3 _ _ (e2 _ _ hD), ?_, n0, Evl.Ex.mut (Evl.Ex.trans e1 (Evl.Ex.trans e2 e3)) n0, vs ++ [w], upd_same, ?_⟩)
    · have z := sel_len (bs.take i) (fs.take i)
      rw [List.length_take] at z
      rw [hv.len]
      exact Nat.lt_of_le_of_lt (by omega : _ ≤ 100000) (by decide)
    · have hD3 := e3 _ _ (e2 _ _ hD)
      rw [eq, if_pos rfl]
      exact ((hv.up (Evl.Ex.trans e2 e3)).upI iT (ExI.lst hD3)).app (.one (dw.upI (imm_mem im f (List.mem_of_getElem? hf)) (ExI.lst hD3)))
  | false =>
    refine iteF ⟨n0, Evl.Ex.trans e1 e2, vs, e2 _ _ hD, ?_⟩
    rw [eq, if_neg Bool.false_ne_true, List.append_nil]
    exact hv.up e2
section
variable {X : Cx} {e elt iter a b c : Expr} {σ : St} {H : Hp} {pos p : Pos} {x : Str} {scope : Scope} {ifs : List Expr}
/-- a block's context -/
abbrev Blk (X : Cx) (s : Shared) (H0 : Hp) (scope : Scope) (C : Addr) (cl : List (Str × Addr)) (fp : List Addr) : Cx := X.blk s H0 scope (compEnvC scope cl C X.env) fp
theorem vl_lcL (N : List Str) (sc : Scope) (j : Nat) {fs : List PyData} {ds : List PyData} (h : VD X a σ H (.list ds)) (hl : fs.length = ds.length) (im : immAll fs = true) (hz : fs.length ≤ 40000) (he : ∀ (i : Nat) d w f H1, ds[i]? = some d → fs[i]? = some f → Ex H H1 → Dp X.K H1 w d → ∀ s H0 C cl fp, VD (Blk X s H0 scope C cl fp) elt ((wipe σ [j]).set j (some w)) H1 f) (hc : X.calm = true) (hN : X.N.Nodup) (hj : X.N[j]? = some x := by rfl) (hx : ∀ C cl, Loc (compEnvC scope cl C X.env).scope x := by first | exact fun _ _ => Or.inl rfl | exact fun _ _ => Or.inr rfl) (hfx : ∀ s H0 C cl fp, (Blk X s H0 scope C cl fp).fn x = true ∨ (compEnvC scope cl C X.env).scope.names.lookup x = some .local := by first | exact fun _ _ _ _ _ => .inl rfl | exact fun _ _ _ _ _ => .inr rfl) (hNN : X.N = N := by rfl) (hsc : X.env.scope = sc := by rfl) (hb : blkC N sc scope [(x, j)] = true := by decide +kernel) (hw : ∀ v, wipe ((wipe σ [j]).set j (some v)) [j] = wipe σ [j] := by intro _; rfl) (hs : ∀ z, foldedSetIterable a X.env z = pure z := by intro _; rfl) :
    VL X (.ListComp elt [⟨.Name x p, a, [], 0⟩] scope pos) σ H fs := by
  intro H0 e0
  have ok : BlkOk X.N X.env.scope scope [(x, j)] := blkOk_by (by rw [hNN, hsc]; exact hb)
  refine .of (pe_lc (own := [(x, j)]) (g := gName j) (te := fun σ H Q => ∀ s H0 C cl fp, WE (Blk X s H0 scope C cl fp) elt σ H Q) hc hN (pi_list WE.pe) ok (fun s H1 C cl fp => pg_name hN hj (hx C cl) (hfx s H1 C cl fp)) (fun s H1 C cl fp => pts_nil) (fun s H1 C cl fp => ⟨fun pins s' σ H Q I z => z _ _ _ _ _ pins s' I⟩) hs) ?_
  refine (h H0 e0).mono fun v H1 ⟨e1, dv⟩ => ?_
  obtain ⟨l, xs, ev, sx, da⟩ := dv.lst_v
  refine ⟨l, ev, ⟨xs, sx⟩, fun D hD => lc_list (xs := xs) (g := gName j) (tt := tYes) (te := fun σ H Q => ∀ s H0 C cl fp, WE (Blk X s H0 scope C cl fp) elt σ H Q) (vs := [j]) (σ := σ) (Qd := fun H2 => Ex H0 H2 ∧ DpL X.K H2 (.ref D) fs) (Lw X.K H1 D (List.replicate fs.length true) fs) ⟨hD, Evl.Ex.new hD, [], upd_same, .nil⟩ (fun i H' _ p => Evl.ex_l p.2.1 sx) (fun i w H' hi p => ?_) (fun H' p => ?_)⟩
  · obtain ⟨d, hd⟩ : ∃ d, ds[i]? = some d := ⟨_, List.getElem?_eq_getElem (by have := (List.getElem?_eq_some_iff.mp hi).1; rw [da.len] at this; exact this)⟩
    obtain ⟨f, hf⟩ : ∃ f, fs[i]? = some f := ⟨_, List.getElem?_eq_getElem (by have := (List.getElem?_eq_some_iff.mp hd).1; omega)⟩
    have dw : Dp X.K H' w d := by
      obtain ⟨u, hu, du⟩ := da.at_ hd
      rw [hi] at hu
      rw [Option.some.inj hu]
      exact du.up p.2.1
    refine ⟨hw _, lw_turn (b := true) (f := f) (t := tYes) (te := fun σ H Q => ∀ s H0 C cl fp, WE (Blk X s H0 scope C cl fp) elt σ H Q) (by omega) (by simp) im p (by rw [List.getElem?_replicate, if_pos (List.getElem?_eq_some_iff.mp hf).1]) hf (fun Q k => ?_) (fun hb2 H2 e2 Q k s2 H3 C cl fp => ?_)⟩
    · exact k H' (Evl.Ex.refl H')
    · exact (he i d w f H2 hd hf (Evl.Ex.trans (Evl.Ex.trans (Evl.Ex.trans e0 e1) p.2.1) e2) (dw.up e2) s2 H3 C cl fp).use fun w2 H4 e4 dw2 => k w2 H4 e4 dw2
  · obtain ⟨n0, e2, vs, hD2, hv⟩ := p
    have el : xs.length = fs.length := by rw [da.len]; omega
    rw [el, List.take_of_length_le (Nat.le_of_eq (by simp)), List.take_of_length_le (Nat.le_refl _), sel_true] at hv
    exact ⟨Evl.Ex.trans e1 e2, D, vs, rfl, hD2, hv⟩
theorem vl_lcIfL (N : List Str) (sc : Scope) (j : Nat) {fs : List PyData} {ds : List PyData} (h : VD X a σ H (.list ds)) (hl : fs.length = ds.length) (im : immAll fs = true) (hz : fs.length ≤ 40000) (bs : List Bool) (hbl : bs.length = fs.length) (ht : ∀ (i : Nat) d w f H1, ds[i]? = some d → fs[i]? = some f → Ex H H1 → Dp X.K H1 w d → ∀ t, bs[i]? = some t → ∀ s H0 C cl fp, VT (Blk X s H0 scope C cl fp) c ((wipe σ [j]).set j (some w)) H1 t) (he : ∀ (i : Nat) d w f H1, ds[i]? = some d → fs[i]? = some f → Ex H H1 → Dp X.K H1 w d → bs[i]? = some true → ∀ s H0 C cl fp, VD (Blk X s H0 scope C cl fp) elt ((wipe σ [j]).set j (some w)) H1 f) (hc : X.calm = true) (hN : X.N.Nodup) (hj : X.N[j]? = some x := by rfl) (hx : ∀ C cl, Loc (compEnvC scope cl C X.env).scope x := by first | exact fun _ _ => Or.inl rfl | exact fun _ _ => Or.inr rfl) (hfx : ∀ s H0 C cl fp, (Blk X s H0 scope C cl fp).fn x = true ∨ (compEnvC scope cl C X.env).scope.names.lookup x = some .local := by first | exact fun _ _ _ _ _ => .inl rfl | exact fun _ _ _ _ _ => .inr rfl) (hNN : X.N = N := by rfl) (hsc : X.env.scope = sc := by rfl) (hb : blkC N sc scope [(x, j)] = true := by decide +kernel) (hw : ∀ v, wipe ((wipe σ [j]).set j (some v)) [j] = wipe σ [j] := by intro _; rfl) (hs : ∀ z, foldedSetIterable a X.env z = pure z := by intro _; rfl) :
    VL X (.ListComp elt [⟨.Name x p, a, [c], 0⟩] scope pos) σ H (sel bs fs) := by
  intro H0 e0
  have ok : BlkOk X.N X.env.scope scope [(x, j)] := blkOk_by (by rw [hNN, hsc]; exact hb)
  refine .of (pe_lc (own := [(x, j)]) (g := gName j) (te := fun σ H Q => ∀ s H0 C cl fp, WE (Blk X s H0 scope C cl fp) elt σ H Q) hc hN (pi_list WE.pe) ok (fun s H1 C cl fp => pg_name hN hj (hx C cl) (hfx s H1 C cl fp)) (fun s H1 C cl fp => pts_one (t := fun σ H Q => ∀ s H0 C cl fp, WT (Blk X s H0 scope C cl fp) c σ H Q) ⟨fun pins s σ H Q I z => z _ _ _ _ _ pins s I⟩) (fun s H1 C cl fp => ⟨fun pins s' σ H Q I z => z _ _ _ _ _ pins s' I⟩) hs) ?_
  refine (h H0 e0).mono fun v H1 ⟨e1, dv⟩ => ?_
  obtain ⟨l, xs, ev, sx, da⟩ := dv.lst_v
  refine ⟨l, ev, ⟨xs, sx⟩, fun D hD => lc_list (xs := xs) (g := gName j) (tt := (fun σ H Q => ∀ s H0 C cl fp, WT (Blk X s H0 scope C cl fp) c σ H Q)) (te := fun σ H Q => ∀ s H0 C cl fp, WE (Blk X s H0 scope C cl fp) elt σ H Q) (vs := [j]) (σ := σ) (Qd := fun H2 => Ex H0 H2 ∧ DpL X.K H2 (.ref D) (sel bs fs)) (Lw X.K H1 D bs fs) ⟨hD, Evl.Ex.new hD, [], upd_same, .nil⟩ (fun i H' _ p => Evl.ex_l p.2.1 sx) (fun i w H' hi p => ?_) (fun H' p => ?_)⟩
  · obtain ⟨d, hd⟩ : ∃ d, ds[i]? = some d := ⟨_, List.getElem?_eq_getElem (by have := (List.getElem?_eq_some_iff.mp hi).1; rw [da.len] at this; exact this)⟩
    obtain ⟨f, hf⟩ : ∃ f, fs[i]? = some f := ⟨_, List.getElem?_eq_getElem (by have := (List.getElem?_eq_some_iff.mp hd).1; omega)⟩
    have dw : Dp X.K H' w d := by
      obtain ⟨u, hu, du⟩ := da.at_ hd
      rw [hi] at hu
      rw [Option.some.inj hu]
      exact du.up p.2.1
    obtain ⟨t, hbt⟩ : ∃ t, bs[i]? = some t := ⟨_, List.getElem?_eq_getElem (by have := (List.getElem?_eq_some_iff.mp hf).1; omega)⟩
    refine ⟨hw _, lw_turn (b := t) (f := f) (t := (fun σ H Q => ∀ s H0 C cl fp, WT (Blk X s H0 scope C cl fp) c σ H Q)) (te := fun σ H Q => ∀ s H0 C cl fp, WE (Blk X s H0 scope C cl fp) elt σ H Q) (by omega) hbl im p hbt hf (fun Q k => ?_) (fun hb2 H2 e2 Q k s2 H3 C cl fp => ?_)⟩
    · intro s2 H3 C cl fp
      exact (ht i d w f H' hd hf (Evl.Ex.trans (Evl.Ex.trans e0 e1) p.2.1) dw t hbt s2 H3 C cl fp).use fun H2 e2 => k H2 e2
    · exact (he i d w f H2 hd hf (Evl.Ex.trans (Evl.Ex.trans (Evl.Ex.trans e0 e1) p.2.1) e2) (dw.up e2) (by rw [hbt, hb2]) s2 H3 C cl fp).use fun w2 H4 e4 dw2 => k w2 H4 e4 dw2
  · obtain ⟨n0, e2, vs, hD2, hv⟩ := p
    have el : xs.length = fs.length := by rw [da.len]; omega
    rw [el, List.take_of_length_le (Nat.le_of_eq hbl), List.take_of_length_le (Nat.le_refl _)] at hv
    exact ⟨Evl.Ex.trans e1 e2, D, vs, rfl, hD2, hv⟩
theorem vl_lcT (N : List Str) (sc : Scope) (j : Nat) {fs : List PyData} {ds : List PyData} (h : VD X a σ H (.tuple ds)) (hl : fs.length = ds.length) (im : immAll fs = true) (hz : fs.length ≤ 40000) (he : ∀ (i : Nat) d w f H1, ds[i]? = some d → fs[i]? = some f → Ex H H1 → Dp X.K H1 w d → ∀ s H0 C cl fp, VD (Blk X s H0 scope C cl fp) elt ((wipe σ [j]).set j (some w)) H1 f) (hc : X.calm = true) (hN : X.N.Nodup) (hj : X.N[j]? = some x := by rfl) (hx : ∀ C cl, Loc (compEnvC scope cl C X.env).scope x := by first | exact fun _ _ => Or.inl rfl | exact fun _ _ => Or.inr rfl) (hfx : ∀ s H0 C cl fp, (Blk X s H0 scope C cl fp).fn x = true ∨ (compEnvC scope cl C X.env).scope.names.lookup x = some .local := by first | exact fun _ _ _ _ _ => .inl rfl | exact fun _ _ _ _ _ => .inr rfl) (hNN : X.N = N := by rfl) (hsc : X.env.scope = sc := by rfl) (hb : blkC N sc scope [(x, j)] = true := by decide +kernel) (hw : ∀ v, wipe ((wipe σ [j]).set j (some v)) [j] = wipe σ [j] := by intro _; rfl) (hs : ∀ z, foldedSetIterable a X.env z = pure z := by intro _; rfl) :
    VL X (.ListComp elt [⟨.Name x p, a, [], 0⟩] scope pos) σ H fs := by
  intro H0 e0
  have ok : BlkOk X.N X.env.scope scope [(x, j)] := blkOk_by (by rw [hNN, hsc]; exact hb)
  refine .of (pe_lc (own := [(x, j)]) (g := gName j) (te := fun σ H Q => ∀ s H0 C cl fp, WE (Blk X s H0 scope C cl fp) elt σ H Q) hc hN (pi_tup WE.pe) ok (fun s H1 C cl fp => pg_name hN hj (hx C cl) (hfx s H1 C cl fp)) (fun s H1 C cl fp => pts_nil) (fun s H1 C cl fp => ⟨fun pins s' σ H Q I z => z _ _ _ _ _ pins s' I⟩) hs) ?_
  refine (h H0 e0).mono fun v H1 ⟨e1, dv⟩ => ?_
  obtain ⟨l, xs, ev, sx, da⟩ := dv.tup_v
  refine ⟨l, ev, ⟨xs, sx⟩, fun D hD => lc_tup (xs := xs) (g := gName j) (tt := tYes) (te := fun σ H Q => ∀ s H0 C cl fp, WE (Blk X s H0 scope C cl fp) elt σ H Q) (vs := [j]) (σ := σ) (Qd := fun H2 => Ex H0 H2 ∧ DpL X.K H2 (.ref D) fs) (Lw X.K H1 D (List.replicate fs.length true) fs) ⟨hD, Evl.Ex.new hD, [], upd_same, .nil⟩ (fun i H' _ p => Evl.ex_t p.2.1 sx) (fun i w H' hi p => ?_) (fun H' p => ?_)⟩
  · obtain ⟨d, hd⟩ : ∃ d, ds[i]? = some d := ⟨_, List.getElem?_eq_getElem (by have := (List.getElem?_eq_some_iff.mp hi).1; rw [da.len] at this; exact this)⟩
    obtain ⟨f, hf⟩ : ∃ f, fs[i]? = some f := ⟨_, List.getElem?_eq_getElem (by have := (List.getElem?_eq_some_iff.mp hd).1; omega)⟩
    have dw : Dp X.K H' w d := by
      obtain ⟨u, hu, du⟩ := da.at_ hd
      rw [hi] at hu
      rw [Option.some.inj hu]
      exact du.up p.2.1
    refine ⟨hw _, lw_turn (b := true) (f := f) (t := tYes) (te := fun σ H Q => ∀ s H0 C cl fp, WE (Blk X s H0 scope C cl fp) elt σ H Q) (by omega) (by simp) im p (by rw [List.getElem?_replicate, if_pos (List.getElem?_eq_some_iff.mp hf).1]) hf (fun Q k => ?_) (fun hb2 H2 e2 Q k s2 H3 C cl fp => ?_)⟩
    · exact k H' (Evl.Ex.refl H')
    · exact (he i d w f H2 hd hf (Evl.Ex.trans (Evl.Ex.trans (Evl.Ex.trans e0 e1) p.2.1) e2) (dw.up e2) s2 H3 C cl fp).use fun w2 H4 e4 dw2 => k w2 H4 e4 dw2
  · obtain ⟨n0, e2, vs, hD2, hv⟩ := p
    have el : xs.length = fs.length := by rw [da.len]; omega
    rw [el, List.take_of_length_le (Nat.le_of_eq (by simp)), List.take_of_length_le (Nat.le_refl _), sel_true] at hv
    exact ⟨Evl.Ex.trans e1 e2, D, vs, rfl, hD2, hv⟩
theorem vl_lcIfT (N : List Str) (sc : Scope) (j : Nat) {fs : List PyData} {ds : List PyData} (h : VD X a σ H (.tuple ds)) (hl : fs.length = ds.length) (im : immAll fs = true) (hz : fs.length ≤ 40000) (bs : List Bool) (hbl : bs.length = fs.length) (ht : ∀ (i : Nat) d w f H1, ds[i]? = some d → fs[i]? = some f → Ex H H1 → Dp X.K H1 w d → ∀ t, bs[i]? = some t → ∀ s H0 C cl fp, VT (Blk X s H0 scope C cl fp) c ((wipe σ [j]).set j (some w)) H1 t) (he : ∀ (i : Nat) d w f H1, ds[i]? = some d → fs[i]? = some f → Ex H H1 → Dp X.K H1 w d → bs[i]? = some true → ∀ s H0 C cl fp, VD (Blk X s H0 scope C cl fp) elt ((wipe σ [j]).set j (some w)) H1 f) (hc : X.calm = true) (hN : X.N.Nodup) (hj : X.N[j]? = some x := by rfl) (hx : ∀ C cl, Loc (compEnvC scope cl C X.env).scope x := by first | exact fun _ _ => Or.inl rfl | exact fun _ _ => Or.inr rfl) (hfx : ∀ s H0 C cl fp, (Blk X s H0 scope C cl fp).fn x = true ∨ (compEnvC scope cl C X.env).scope.names.lookup x = some .local := by first | exact fun _ _ _ _ _ => .inl rfl | exact fun _ _ _ _ _ => .inr rfl) (hNN : X.N = N := by rfl) (hsc : X.env.scope = sc := by rfl) (hb : blkC N sc scope [(x, j)] = true := by decide +kernel) (hw : ∀ v, wipe ((wipe σ [j]).set j (some v)) [j] = wipe σ [j] := by intro _; rfl) (hs : ∀ z, foldedSetIterable a X.env z = pure z := by intro _; rfl) :
    VL X (.ListComp elt [⟨.Name x p, a, [c], 0⟩] scope pos) σ H (sel bs fs) := by
  intro H0 e0
  have ok : BlkOk X.N X.env.scope scope [(x, j)] := blkOk_by (by rw [hNN, hsc]; exact hb)
  refine .of (pe_lc (own := [(x, j)]) (g := gName j) (te := fun σ H Q => ∀ s H0 C cl fp, WE (Blk X s H0 scope C cl fp) elt σ H Q) hc hN (pi_tup WE.pe) ok (fun s H1 C cl fp => pg_name hN hj (hx C cl) (hfx s H1 C cl fp)) (fun s H1 C cl fp => pts_one (t := fun σ H Q => ∀ s H0 C cl fp, WT (Blk X s H0 scope C cl fp) c σ H Q) ⟨fun pins s σ H Q I z => z _ _ _ _ _ pins s I⟩) (fun s H1 C cl fp => ⟨fun pins s' σ H Q I z => z _ _ _ _ _ pins s' I⟩) hs) ?_
  refine (h H0 e0).mono fun v H1 ⟨e1, dv⟩ => ?_
  obtain ⟨l, xs, ev, sx, da⟩ := dv.tup_v
  refine ⟨l, ev, ⟨xs, sx⟩, fun D hD => lc_tup (xs := xs) (g := gName j) (tt := (fun σ H Q => ∀ s H0 C cl fp, WT (Blk X s H0 scope C cl fp) c σ H Q)) (te := fun σ H Q => ∀ s H0 C cl fp, WE (Blk X s H0 scope C cl fp) elt σ H Q) (vs := [j]) (σ := σ) (Qd := fun H2 => Ex H0 H2 ∧ DpL X.K H2 (.ref D) (sel bs fs)) (Lw X.K H1 D bs fs) ⟨hD, Evl.Ex.new hD, [], upd_same, .nil⟩ (fun i H' _ p => Evl.ex_t p.2.1 sx) (fun i w H' hi p => ?_) (fun H' p => ?_)⟩
  · obtain ⟨d, hd⟩ : ∃ d, ds[i]? = some d := ⟨_, List.getElem?_eq_getElem (by have := (List.getElem?_eq_some_iff.mp hi).1; rw [da.len] at this; exact this)⟩
    obtain ⟨f, hf⟩ : ∃ f, fs[i]? = some f := ⟨_, List.getElem?_eq_getElem (by have := (List.getElem?_eq_some_iff.mp hd).1; omega)⟩
    have dw : Dp X.K H' w d := by
      obtain ⟨u, hu, du⟩ := da.at_ hd
      rw [hi] at hu
      rw [Option.some.inj hu]
      exact du.up p.2.1
    obtain ⟨t, hbt⟩ : ∃ t, bs[i]? = some t := ⟨_, List.getElem?_eq_getElem (by have := (List.getElem?_eq_some_iff.mp hf).1; omega)⟩
    refine ⟨hw _, lw_turn (b := t) (f := f) (t := (fun σ H Q => ∀ s H0 C cl fp, WT (Blk X s H0 scope C cl fp) c σ H Q)) (te := fun σ H Q => ∀ s H0 C cl fp, WE (Blk X s H0 scope C cl fp) elt σ H Q) (by omega) hbl im p hbt hf (fun Q k => ?_) (fun hb2 H2 e2 Q k s2 H3 C cl fp => ?_)⟩
    · intro s2 H3 C cl fp
      exact (ht i d w f H' hd hf (Evl.Ex.trans (Evl.Ex.trans e0 e1) p.2.1) dw t hbt s2 H3 C cl fp).use fun H2 e2 => k H2 e2
    · exact (he i d w f H2 hd hf (Evl.Ex.trans (Evl.Ex.trans (Evl.Ex.trans e0 e1) p.2.1) e2) (dw.up e2) (by rw [hbt, hb2]) s2 H3 C cl fp).use fun w2 H4 e4 dw2 => k w2 H4 e4 dw2
  · obtain ⟨n0, e2, vs, hD2, hv⟩ := p
    have el : xs.length = fs.length := by rw [da.len]; omega
    rw [el, List.take_of_length_le (Nat.le_of_eq hbl), List.take_of_length_le (Nat.le_refl _)] at hv
    exact ⟨Evl.Ex.trans e1 e2, D, vs, rfl, hD2, hv⟩
theorem vl_lcR (N : List Str) (sc : Scope) (j : Nat) {fs : List PyData} {pr pc : Pos} (hm : X.mg "range" = none) {n : Int} (hn : 0 ≤ n ∧ n ≤ 40000) (h : VD X a σ H (.int n)) (hl : (fs.length : Int) = n) (im : immAll fs = true) (hz : fs.length ≤ 40000) (he : ∀ (i : Nat) f H1, fs[i]? = some f → Ex H H1 → ∀ s H0 C cl fp, VD (Blk X s H0 scope C cl fp) elt ((wipe σ [j]).set j (some (V.int (i : Int)))) H1 f) (hc : X.calm = true) (hN : X.N.Nodup) (hj : X.N[j]? = some x := by rfl) (hx : ∀ C cl, Loc (compEnvC scope cl C X.env).scope x := by first | exact fun _ _ => Or.inl rfl | exact fun _ _ => Or.inr rfl) (hfx : ∀ s H0 C cl fp, (Blk X s H0 scope C cl fp).fn x = true ∨ (compEnvC scope cl C X.env).scope.names.lookup x = some .local := by first | exact fun _ _ _ _ _ => .inl rfl | exact fun _ _ _ _ _ => .inr rfl) (hNN : X.N = N := by rfl) (hsc : X.env.scope = sc := by rfl) (hb : blkC N sc scope [(x, j)] = true := by decide +kernel) (hw : ∀ v, wipe ((wipe σ [j]).set j (some v)) [j] = wipe σ [j] := by intro _; rfl) (hg : Gl X "range" := by rfl) (hea : starEach [a] X.env = [(false, eval a X.env)] := by rfl) (hea2 : starEach [a] X.env = (false, eval a X.env) :: starEach [] X.env := by rfl) (hs : ∀ z, foldedSetIterable (.Call (.Name "range" pr) [a] [] pc) X.env z = pure z := by intro _; rfl) :
    VL X (.ListComp elt [⟨.Name x p, (.Call (.Name "range" pr) [a] [] pc), [], 0⟩] scope pos) σ H fs := by
  intro H0 e0
  have ok : BlkOk X.N X.env.scope scope [(x, j)] := blkOk_by (by rw [hNN, hsc]; exact hb)
  refine .of (pe_lc (own := [(x, j)]) (g := gName j) (te := fun σ H Q => ∀ s H0 C cl fp, WE (Blk X s H0 scope C cl fp) elt σ H Q) hc hN (pi_range1 hg hm WA.pa hea) ok (fun s H1 C cl fp => pg_name hN hj (hx C cl) (hfx s H1 C cl fp)) (fun s H1 C cl fp => pts_nil) (fun s H1 C cl fp => ⟨fun pins s' σ H Q I z => z _ _ _ _ _ pins s' I⟩) hs) ?_
  refine wa_cons ((h H0 e0).mono fun v H1 ⟨e1, dv⟩ => wa_nil ⟨n, by rw [dv.int_v], by omega, by omega, fun D hD => lc_range (lo := 0) (n := n.toNat) (g := gName j) (tt := tYes) (te := fun σ H Q => ∀ s H0 C cl fp, WE (Blk X s H0 scope C cl fp) elt σ H Q) (vs := [j]) (σ := σ) (Qd := fun H2 => Ex H0 H2 ∧ DpL X.K H2 (.ref D) fs) (Lw X.K H1 D (List.replicate fs.length true) fs) ⟨hD, Evl.Ex.new hD, [], upd_same, .nil⟩ (fun i H' hi p => ?_) (fun H' p => ?_)⟩) hea2
  · obtain ⟨f, hf⟩ : ∃ f, fs[i]? = some f := ⟨_, List.getElem?_eq_getElem (by omega)⟩
    refine ⟨hw _, lw_turn (b := true) (f := f) (t := tYes) (te := fun σ H Q => ∀ s H0 C cl fp, WE (Blk X s H0 scope C cl fp) elt σ H Q) (by omega) (by simp) im p (by rw [List.getElem?_replicate, if_pos (List.getElem?_eq_some_iff.mp hf).1]) hf (fun Q k => ?_) (fun hb2 H2 e2 Q k s2 H3 C cl fp => ?_)⟩
    · exact k H' (Evl.Ex.refl H')
    · rw [Int.zero_add]
      exact (he i f H2 hf (Evl.Ex.trans (Evl.Ex.trans (Evl.Ex.trans e0 e1) p.2.1) e2) s2 H3 C cl fp).use fun w2 H4 e4 dw2 => k w2 H4 e4 dw2
  · obtain ⟨n0, e2, vs, hD2, hv⟩ := p
    have el : n.toNat = fs.length := by omega
    rw [el, List.take_of_length_le (Nat.le_of_eq (by simp)), List.take_of_length_le (Nat.le_refl _), sel_true] at hv
    exact ⟨Evl.Ex.trans e1 e2, D, vs, rfl, hD2, hv⟩
theorem vl_lcIfR (N : List Str) (sc : Scope) (j : Nat) {fs : List PyData} {pr pc : Pos} (hm : X.mg "range" = none) {n : Int} (hn : 0 ≤ n ∧ n ≤ 40000) (h : VD X a σ H (.int n)) (hl : (fs.length : Int) = n) (im : immAll fs = true) (hz : fs.length ≤ 40000) (bs : List Bool) (hbl : bs.length = fs.length) (ht : ∀ (i : Nat) f H1, fs[i]? = some f → Ex H H1 → ∀ t, bs[i]? = some t → ∀ s H0 C cl fp, VT (Blk X s H0 scope C cl fp) c ((wipe σ [j]).set j (some (V.int (i : Int)))) H1 t) (he : ∀ (i : Nat) f H1, fs[i]? = some f → Ex H H1 → bs[i]? = some true → ∀ s H0 C cl fp, VD (Blk X s H0 scope C cl fp) elt ((wipe σ [j]).set j (some (V.int (i : Int)))) H1 f) (hc : X.calm = true) (hN : X.N.Nodup) (hj : X.N[j]? = some x := by rfl) (hx : ∀ C cl, Loc (compEnvC scope cl C X.env).scope x := by first | exact fun _ _ => Or.inl rfl | exact fun _ _ => Or.inr rfl) (hfx : ∀ s H0 C cl fp, (Blk X s H0 scope C cl fp).fn x = true ∨ (compEnvC scope cl C X.env).scope.names.lookup x = some .local := by first | exact fun _ _ _ _ _ => .inl rfl | exact fun _ _ _ _ _ => .inr rfl) (hNN : X.N = N := by rfl) (hsc : X.env.scope = sc := by rfl) (hb : blkC N sc scope [(x, j)] = true := by decide +kernel) (hw : ∀ v, wipe ((wipe σ [j]).set j (some v)) [j] = wipe σ [j] := by intro _; rfl) (hg : Gl X "range" := by rfl) (hea : starEach [a] X.env = [(false, eval a X.env)] := by rfl) (hea2 : starEach [a] X.env = (false, eval a X.env) :: starEach [] X.env := by rfl) (hs : ∀ z, foldedSetIterable (.Call (.Name "range" pr) [a] [] pc) X.env z = pure z := by intro _; rfl) :
    VL X (.ListComp elt [⟨.Name x p, (.Call (.Name "range" pr) [a] [] pc), [c], 0⟩] scope pos) σ H (sel bs fs) := by
  intro H0 e0
  have ok : BlkOk X.N X.env.scope scope [(x, j)] := blkOk_by (by rw [hNN, hsc]; exact hb)
  refine .of (pe_lc (own := [(x, j)]) (g := gName j) (te := fun σ H Q => ∀ s H0 C cl fp, WE (Blk X s H0 scope C cl fp) elt σ H Q) hc hN (pi_range1 hg hm WA.pa hea) ok (fun s H1 C cl fp => pg_name hN hj (hx C cl) (hfx s H1 C cl fp)) (fun s H1 C cl fp => pts_one (t := fun σ H Q => ∀ s H0 C cl fp, WT (Blk X s H0 scope C cl fp) c σ H Q) ⟨fun pins s σ H Q I z => z _ _ _ _ _ pins s I⟩) (fun s H1 C cl fp => ⟨fun pins s' σ H Q I z => z _ _ _ _ _ pins s' I⟩) hs) ?_
  refine wa_cons ((h H0 e0).mono fun v H1 ⟨e1, dv⟩ => wa_nil ⟨n, by rw [dv.int_v], by omega, by omega, fun D hD => lc_range (lo := 0) (n := n.toNat) (g := gName j) (tt := (fun σ H Q => ∀ s H0 C cl fp, WT (Blk X s H0 scope C cl fp) c σ H Q)) (te := fun σ H Q => ∀ s H0 C cl fp, WE (Blk X s H0 scope C cl fp) elt σ H Q) (vs := [j]) (σ := σ) (Qd := fun H2 => Ex H0 H2 ∧ DpL X.K H2 (.ref D) (sel bs fs)) (Lw X.K H1 D bs fs) ⟨hD, Evl.Ex.new hD, [], upd_same, .nil⟩ (fun i H' hi p => ?_) (fun H' p => ?_)⟩) hea2
  · obtain ⟨f, hf⟩ : ∃ f, fs[i]? = some f := ⟨_, List.getElem?_eq_getElem (by omega)⟩
    obtain ⟨t, hbt⟩ : ∃ t, bs[i]? = some t := ⟨_, List.getElem?_eq_getElem (by have := (List.getElem?_eq_some_iff.mp hf).1; omega)⟩
    refine ⟨hw _, lw_turn (b := t) (f := f) (t := (fun σ H Q => ∀ s H0 C cl fp, WT (Blk X s H0 scope C cl fp) c σ H Q)) (te := fun σ H Q => ∀ s H0 C cl fp, WE (Blk X s H0 scope C cl fp) elt σ H Q) (by omega) hbl im p hbt hf (fun Q k => ?_) (fun hb2 H2 e2 Q k s2 H3 C cl fp => ?_)⟩
    · intro s2 H3 C cl fp
      rw [Int.zero_add]
      exact (ht i f H' hf (Evl.Ex.trans (Evl.Ex.trans e0 e1) p.2.1) t hbt s2 H3 C cl fp).use fun H2 e2 => k H2 e2
    · rw [Int.zero_add]
      exact (he i f H2 hf (Evl.Ex.trans (Evl.Ex.trans (Evl.Ex.trans e0 e1) p.2.1) e2) (by rw [hbt, hb2]) s2 H3 C cl fp).use fun w2 H4 e4 dw2 => k w2 H4 e4 dw2
  · obtain ⟨n0, e2, vs, hD2, hv⟩ := p
    have el : n.toNat = fs.length := by omega
    rw [el, List.take_of_length_le (Nat.le_of_eq hbl), List.take_of_length_le (Nat.le_refl _)] at hv
    exact ⟨Evl.Ex.trans e1 e2, D, vs, rfl, hD2, hv⟩
end
/-! ### defs that call themselves: by the number of calls -/
/-- nothing is asked of it -/
theorem fd_vac {g : Gd} {x : Str} {ps : List Str} {sp : Sp} {st : Stmt} (F : FT g x st) (no : ∀ vs H Q E, ¬ sp vs H Q E) (hb : ∀ (kV doc pm : Value) (an : Option Addr) (cdv ct : Value) (us : List Value), us.length = ps.length → bindArgs (PySem.W.fnOf x x (defArgs st) (defBody st) (defScope st) .none kV doc pm an cdv ct) ⟨us, []⟩ = pure (ps.zip us)) : Fd g x ps 0 sp := by
  obtain ⟨f, fd, F, hm⟩ := F
  refine ⟨f, fd, [], ⟨fun vs H Q E h => absurd h (no vs H Q E), fun A outer s H args us vs Q E _ _ _ _ h => absurd h (no vs H Q E)⟩, hm, F.kp, .nil, fun s us _ hl => ?_⟩
  rw [List.append_nil] at hl ⊢
  exact FunD.bindsA (ps := ps) F hb s us hl
section
variable {X : Cx} {e : Expr} {es : List Expr} {σ : St} {H : Hp} {pos p : Pos} {x : Str} {ps : List Str} {k n : Nat}
/-- a call in which defaults fill up -/
theorem vd_callD {f : List PyData → Option PyData} {ds ds2 : List PyData} {r : PyData} {dvs : List V} (F : Fd (Cxg X) x ps k (spF X.K n f) dvs) (hr : Room k X.A) (h : VA X (e :: es) σ H ds) (hd : ∀ H1, DpAll X.K H1 dvs ds2) (hn : (ds ++ ds2).length = n) (hf : f (ds ++ ds2) = some r) (hg : Gl X x := by rfl) (hdb : (x == ("__debug__" : Str)) = false := by decide)
    (he : starEach (e :: es) X.env = (false, eval e X.env) :: starEach es X.env := by rfl) (hpl : (backTo pos (starEach es X.env)).any (·.1) = false := by rfl) : VD X (.Call (.Name x p) (e :: es) [] pos) σ H r := fun H1 e1 =>
  we_call F hr passL ((h H1 e1).mono fun vs H2 ⟨e2, dvs⟩ => ⟨by rw [(dvs.app (hd H2)).len]; exact hn, ds ++ ds2, r, dvs.app (hd H2), hf, fun v H3 e3 dv => ⟨Evl.Ex.trans e2 e3, dv⟩⟩) hg hdb he hpl
end
theorem tup2_v {K : PySem.W.Frag} {H : Hp} {v : V} {d e : PyData} (h : Dp K H v (.tuple [d, e])) : ∃ l u w, v = .ref l ∧ SqT K H l [u, w] ∧ Dp K H u d ∧ Dp K H w e := by
  obtain ⟨l, xs, ev, s, da⟩ := h.tup_v
  cases da with
  | cons a b =>
    cases b with
    | cons c r =>
      cases r
      exact ⟨l, _, _, ev, s, a, c⟩
end G

/-! # D1: ratios, plain values: the program's defs on data -/
namespace G
open PySem PySem.Spec PyProof.Rows L2
/-- the built-in names that the module leaves free, its constants -/
structure Nm (mg : Str → Option Value) : Prop where
  len : mg "len" = none
  isinstance : mg "isinstance" = none
  int : mg "int" = none
  bool : mg "bool" = none
  str : mg "str" = none
  tuple : mg "tuple" = none
  list : mg "list" = none
  abs : mg "abs" = none
  all : mg "all" = none
  range : mg "range" = none
  enumerate : mg "enumerate" = none
  repr : mg "repr" = none
  valueError : mg "ValueError" = none
  gcd : mg "gcd" = some (.builtin "math.gcd")
  figures : ∃ t, mg "FIGURES" = some (.str "0123456789" t)
  letters : ∃ t, mg "LETTERS" = some (.str "abcdefghijklmnopqrstuvwxyz" t)
  plain : ∃ t, mg "MOST_PLAIN" = some (.int 400 t)
  deep : ∃ t, mg "MOST_DEEP" = some (.int 50 t)
theorem one_of {K : PySem.W.Frag} {H : Hp} {vs : List V} {ds : List PyData} (hl : vs.length = 1) (h : DpAll K H vs ds) : ∃ v d, vs = [v] ∧ ds = [d] ∧ Dp K H v d := by
  cases h with
  | nil => simp at hl
  | cons a b =>
    cases b with
    | nil => exact ⟨_, _, rfl, rfl, a⟩
    | cons _ _ => simp at hl
theorem two_of {K : PySem.W.Frag} {H : Hp} {vs : List V} {ds : List PyData} (hl : vs.length = 2) (h : DpAll K H vs ds) : ∃ v u d e, vs = [v, u] ∧ ds = [d, e] ∧ Dp K H v d ∧ Dp K H u e := by
  cases h with
  | nil => simp at hl
  | cons a b =>
    obtain ⟨v, d, rfl, rfl, c⟩ := one_of (by simpa using hl) b
    exact ⟨_, _, _, _, rfl, rfl, a, c⟩
def isIntB : PyData → Bool
  | .int _ => true
  | .bool _ => true
  | _ => false
def isBoolB : PyData → Bool
  | .bool _ => true
  | _ => false
def isStrB : PyData → Bool
  | .str _ => true
  | _ => false
def isTupleB : PyData → Bool
  | .tuple _ => true
  | _ => false
def isListB : PyData → Bool
  | .list _ => true
  | _ => false
theorem kit_int (d : PyData) : kitB (tyD d) "int" = some (isIntB d) := by
  cases d with
  | none => exact (by decide +kernel : kitB "NoneType" "int" = some false)
  | bool _ => exact (by decide +kernel : kitB "bool" "int" = some true)
  | int _ => exact (by decide +kernel : kitB "int" "int" = some true)
  | str _ => exact (by decide +kernel : kitB "str" "int" = some false)
  | list _ => exact (by decide +kernel : kitB "list" "int" = some false)
  | tuple _ => exact (by decide +kernel : kitB "tuple" "int" = some false)
  | dict _ => exact (by decide +kernel : kitB "dict" "int" = some false)
theorem kit_bool (d : PyData) : kitB (tyD d) "bool" = some (isBoolB d) := by
  cases d with
  | none => exact (by decide +kernel : kitB "NoneType" "bool" = some false)
  | bool _ => exact (by decide +kernel : kitB "bool" "bool" = some true)
  | int _ => exact (by decide +kernel : kitB "int" "bool" = some false)
  | str _ => exact (by decide +kernel : kitB "str" "bool" = some false)
  | list _ => exact (by decide +kernel : kitB "list" "bool" = some false)
  | tuple _ => exact (by decide +kernel : kitB "tuple" "bool" = some false)
  | dict _ => exact (by decide +kernel : kitB "dict" "bool" = some false)
theorem kit_str (d : PyData) : kitB (tyD d) "str" = some (isStrB d) := by
  cases d with
  | none => exact (by decide +kernel : kitB "NoneType" "str" = some false)
  | bool _ => exact (by decide +kernel : kitB "bool" "str" = some false)
  | int _ => exact (by decide +kernel : kitB "int" "str" = some false)
  | str _ => exact (by decide +kernel : kitB "str" "str" = some true)
  | list _ => exact (by decide +kernel : kitB "list" "str" = some false)
  | tuple _ => exact (by decide +kernel : kitB "tuple" "str" = some false)
  | dict _ => exact (by decide +kernel : kitB "dict" "str" = some false)
theorem kit_tuple (d : PyData) : kitB (tyD d) "tuple" = some (isTupleB d) := by
  cases d with
  | none => exact (by decide +kernel : kitB "NoneType" "tuple" = some false)
  | bool _ => exact (by decide +kernel : kitB "bool" "tuple" = some false)
  | int _ => exact (by decide +kernel : kitB "int" "tuple" = some false)
  | str _ => exact (by decide +kernel : kitB "str" "tuple" = some false)
  | list _ => exact (by decide +kernel : kitB "list" "tuple" = some false)
  | tuple _ => exact (by decide +kernel : kitB "tuple" "tuple" = some true)
  | dict _ => exact (by decide +kernel : kitB "dict" "tuple" = some false)
theorem kit_list (d : PyData) : kitB (tyD d) "list" = some (isListB d) := by
  cases d with
  | none => exact (by decide +kernel : kitB "NoneType" "list" = some false)
  | bool _ => exact (by decide +kernel : kitB "bool" "list" = some false)
  | int _ => exact (by decide +kernel : kitB "int" "list" = some false)
  | str _ => exact (by decide +kernel : kitB "str" "list" = some false)
  | list _ => exact (by decide +kernel : kitB "list" "list" = some true)
  | tuple _ => exact (by decide +kernel : kitB "tuple" "list" = some false)
  | dict _ => exact (by decide +kernel : kitB "dict" "list" = some false)
theorem bt_int : bootBuiltins "int" = some (.type "int") := by decide +kernel
theorem bt_bool : bootBuiltins "bool" = some (.type "bool") := by decide +kernel
theorem bt_str : bootBuiltins "str" = some (.type "str") := by decide +kernel
theorem bt_tuple : bootBuiltins "tuple" = some (.type "tuple") := by decide +kernel
theorem bt_list : bootBuiltins "list" = some (.type "list") := by decide +kernel
def isInt : PyData → Bool
  | .int _ => true
  | _ => false
def isRatio : PyData → Bool
  | .int _ => true
  | .tuple [.int t, .int b] => decide (1 < b) && decide (Nat.gcd t.natAbs b.natAbs = 1)
  | _ => false
def fIsInt : List PyData → Option PyData
  | [d] => some (.bool (isInt d))
  | _ => none
def fIsRatio : List PyData → Option PyData
  | [d] => some (.bool (isRatio d))
  | _ => none
/-- top and bottom -/
def fPair : List PyData → Option PyData
  | [.int i] => some (.tuple [.int i, .int 1])
  | [.tuple ds] => some (.tuple ds)
  | _ => none
def fOpposite : List PyData → Option PyData
  | [.int i] => some (.int (-i))
  | [.tuple [.int t, .int b]] => some (.tuple [.int (-t), .int b])
  | _ => none
def sgn (i : Int) : Int := if 0 < i then 1 else if i < 0 then -1 else 0
def fSign : List PyData → Option PyData
  | [.int i] => some (.int (sgn i))
  | [.tuple [.int t, .int _]] => some (.int (sgn t))
  | _ => none
def fIsList : List PyData → Option PyData
  | [.list _] => some (.bool true)
  | [.tuple _] => some (.bool true)
  | [_] => some (.bool false)
  | _ => none
section
variable {g : Gd}
theorem sc_is_integer : FnScope ["value"] ["value"] (defScope s_is_integer) := ⟨rfl, rfl, rfl, by decide +kernel, rfl, by decide +kernel, by decide +kernel⟩
theorem ok_is_integer (T : Nm g.mg) (F : FT g "is_integer" s_is_integer) : Fd g "is_integer" ["value"] 1 (spF g.K 1 fIsInt) := by
  obtain ⟨f, fd, F, hm⟩ := F
  refine fd_of F hm sc_is_integer (fun _ _ _ _ h => h.1) (fun _ _ _ _ _ _ us hl => match us, hl with | [_], _ => rfl) (fun cdv A outer s H vs Q E hr h => ?_)
  obtain ⟨hl, ds, r, hd, hf, k⟩ := h
  obtain ⟨v, d, rfl, rfl, hv⟩ := one_of hl hd
  have er : r = .bool (isIntB d && !isBoolB d) := by
    have z : some (PyData.bool (isInt d)) = some r := hf
    rw [← Option.some.inj z]
    cases d <;> rfl
  subst er
  exact ws_retD (vd_and (vd_isi T.isinstance T.int bt_int (vd_var 0 rfl hv) (kit_int d)) fun _ => vd_one (vd_not (vd_isi T.isinstance T.bool bt_bool (vd_var 0 rfl hv) (kit_bool d)))) fun v H1 e1 dv => k v H1 e1 dv
theorem sc_is_ratio : FnScope ["value"] ["value"] (defScope s_is_ratio) := ⟨rfl, rfl, rfl, by decide +kernel, rfl, by decide +kernel, by decide +kernel⟩
theorem ok_is_ratio (T : Nm g.mg) (F : FT g "is_ratio" s_is_ratio) (GI : Fd g "is_integer" ["value"] 1 (spF g.K 1 fIsInt)) : Fd g "is_ratio" ["value"] 2 (spF g.K 1 fIsRatio) := by
  obtain ⟨f, fd, F, hm⟩ := F
  refine fd_of F hm sc_is_ratio (fun _ _ _ _ h => h.1) (fun _ _ _ _ _ _ us hl => match us, hl with | [_], _ => rfl) (fun cdv A outer s H vs Q E hr h => ?_)
  obtain ⟨hl, ds, r, hd, hf, k⟩ := h
  obtain ⟨v, d, rfl, rfl, hv⟩ := one_of hl hd
  have er : PyData.bool (isRatio d) = r := Option.some.inj (show some (PyData.bool (isRatio d)) = some r from hf)
  subst er
  -- if not isinstance(value, tuple): return is_integer(value)
  refine ws_if (vt_not (vt_val (vd_isi T.isinstance T.tuple bt_tuple (vd_var 0 rfl hv) (kit_tuple d)))) (fun ht H1 e1 => ?_) (fun ht H1 e1 => ?_)
  · refine ws_retD (vd_call (r := .bool (isInt d)) GI hr (va1 (vd_var 0 rfl (hv.up e1))) rfl rfl) fun v H2 e2 dv => k v H2 (Evl.Ex.trans e1 e2) ?_
    have ei : isRatio d = isInt d := by
      cases d with
      | tuple ds => exact Bool.noConfusion (show false = true from ht)
      | _ => rfl
    rw [ei]
    exact dv
  · cases d with
    | tuple ds =>
      refine ws_nil ?_
      have hv1 := hv.up e1
      by_cases h2 : ds.length = 2
      · obtain ⟨x, y, rfl⟩ : ∃ x y, ds = [x, y] := by
          match ds, h2 with
          | [x, y], _ => exact ⟨x, y, rfl⟩
        refine ws_if (VW.vt (vw_or (vt_ne (vd_lenT T.len (vd_var 0 rfl hv1)) vd_int) fun _ => vw_or (vt_not (vt_val (vd_call (r := .bool (isInt x)) GI hr (va1 (vd_ixT (vd_var 0 rfl hv1) vd_int rfl)) rfl rfl))) fun _ => vw_or1 (vt_not (vt_val (vd_call (r := .bool (isInt y)) GI hr (va1 (vd_ixT (vd_var 0 rfl hv1) vd_int rfl)) rfl rfl))))) (fun hb H2 e2 => ?_) (fun hb H2 e2 => ?_)
        · refine ws_retD vd_bl fun v H3 e3 dv => k v H3 (Evl.Ex.trans e1 (Evl.Ex.trans e2 e3)) ?_
          have z : isRatio (.tuple [x, y]) = false := by
            cases x <;> cases y <;> first | rfl | (simp [isInt] at hb)
          rw [z]
          exact dv
        · refine ws_nil ?_
          cases x with
          | int t =>
            cases y with
            | int b =>
              refine ws_retD (vd_and (vd_gt (vd_ixT (vd_var 0 rfl (hv1.up e2)) vd_int rfl) vd_int) fun _ => vd_one (vd_eq (vd_gcd T.gcd (vd_ixT (vd_var 0 rfl (hv1.up e2)) vd_int rfl) (vd_ixT (vd_var 0 rfl (hv1.up e2)) vd_int rfl)) vd_int)) fun v H3 e3 dv => k v H3 (Evl.Ex.trans e1 (Evl.Ex.trans e2 e3)) ?_
              have z : isRatio (.tuple [.int t, .int b]) = (decide ((1 : Int) < b) && decide (((Nat.gcd t.natAbs b.natAbs : Nat) : Int) = 1)) := by
                show (decide (1 < b) && decide (Nat.gcd t.natAbs b.natAbs = 1)) = _
                congr 1
                exact decide_eq_decide.mpr ⟨fun h => by rw [h]; rfl, fun h => by omega⟩
              rw [z]
              exact dv
            | _ => simp [isInt] at hb
          | _ => simp [isInt] at hb
      · refine ws_if (VW.vt (vw_or (u := true) (vt_ne (vd_lenT T.len (vd_var 0 rfl hv1)) vd_int) fun hn => ?_)) (fun hb H2 e2 => ?_) (fun hb H2 e2 => ?_)
        · have z : ¬ ((ds.length : Int) = 2) := by omega
          simp [z] at hn
        · refine ws_retD vd_bl fun v H3 e3 dv => k v H3 (Evl.Ex.trans e1 (Evl.Ex.trans e2 e3)) ?_
          have z : isRatio (.tuple ds) = false := by
            match ds with
            | [] => rfl
            | [x] => cases x <;> rfl
            | [x, y] => exact absurd rfl h2
            | x :: y :: z :: r => cases x <;> cases y <;> rfl
          rw [z]
          exact dv
        · simp at hb
    | _ => exact Bool.noConfusion (show true = false from ht)
end
end G

/-! # D2: plain values and their texts -/
namespace G
open PySem PySem.Spec PyProof.Rows L2
mutual
def asT : PyData → PyData
  | .list ds => .tuple (asTs ds)
  | .tuple ds => .tuple (asTs ds)
  | .none => .none
  | .bool b => .bool b
  | .int i => .int i
  | .str x => .str x
  | .dict k => .dict k
def asTs : List PyData → List PyData
  | [] => []
  | d :: ds => asT d :: asTs ds
end
theorem asTs_len : ∀ ds : List PyData, (asTs ds).length = ds.length
  | [] => rfl
  | _ :: ds => congrArg Nat.succ (asTs_len ds)
theorem asTs_at : ∀ {ds : List PyData} {i : Nat} {d f : PyData}, ds[i]? = some d → (asTs ds)[i]? = some f → f = asT d
  | [], _, _, _, h, _ => by simp at h
  | x :: ds, 0, d, f, h, k => by
    have h' : x = d := by simpa using h
    have k' : asT x = f := by simpa [asTs] using k
    rw [← k', h']
  | x :: ds, i + 1, d, f, h, k => asTs_at (ds := ds) (i := i) (by simpa using h) (by simpa [asTs] using k)
theorem depth_at {ds : List PyData} {d : PyData} (h : d ∈ ds) : d.depth ≤ PyData.depthAll ds := by
  induction ds with
  | nil => cases h
  | cons x xs ih =>
    rw [PyData.depthAll]
    rcases List.mem_cons.mp h with e | e
    · rw [e]; exact Nat.le_max_left _ _
    · exact Nat.le_trans (ih e) (Nat.le_max_right _ _)
theorem depth_tuple (ds : List PyData) : (PyData.tuple ds).depth = PyData.depthAll ds + 1 := by rw [PyData.depth]
theorem depth_list (ds : List PyData) : (PyData.list ds).depth = PyData.depthAll ds + 1 := by rw [PyData.depth]
mutual
/-- no row within is too long -/
def lens : PyData → Bool
  | .list ds => decide (ds.length ≤ 40000) && lensAll ds
  | .tuple ds => decide (ds.length ≤ 40000) && lensAll ds
  | _ => true
def lensAll : List PyData → Bool
  | [] => true
  | d :: ds => lens d && lensAll ds
end
theorem lens_mem : ∀ {ds : List PyData}, lensAll ds = true → ∀ d ∈ ds, lens d = true
  | [], _, d, h => by cases h
  | x :: xs, k, d, h => by
    simp only [lensAll, Bool.and_eq_true] at k
    rcases List.mem_cons.mp h with e | e
    · rw [e]; exact k.1
    · exact lens_mem k.2 d e
theorem lens_tuple {ds : List PyData} (h : lens (.tuple ds) = true) : ds.length ≤ 40000 ∧ lensAll ds = true := by
  simp only [lens, Bool.and_eq_true, decide_eq_true_eq] at h
  exact h
theorem lens_list {ds : List PyData} (h : lens (.list ds) = true) : ds.length ≤ 40000 ∧ lensAll ds = true := by
  simp only [lens, Bool.and_eq_true, decide_eq_true_eq] at h
  exact h
def fAsT (n : Nat) : List PyData → Option PyData
  | [d] => if d.depth < n ∧ imm (asT d) = true ∧ lens d = true then some (asT d) else none
  | _ => none
def smallR (t b : Int) : Bool := decide ((t.natAbs : Int) < 10 ^ 400) && decide (b < 10 ^ 400)
def fSmall : List PyData → Option PyData
  | [.int i] => some (.bool (smallR i 1))
  | [.tuple [.int t, .int b]] => some (.bool (smallR t b))
  | _ => none
def small2 : List PyData → Bool
  | [.int t, .int b] => smallR t b
  | _ => false
mutual
def isPlain : PyData → Int → Bool
  | .int i, _ => smallR i 1
  | .tuple ds, k => if isRatio (.tuple ds) = true then small2 ds else decide (k < 50) && isPlains ds (k + 1)
  | .list ds, k => decide (k < 50) && isPlains ds (k + 1)
  | _, _ => false
def isPlains : List PyData → Int → Bool
  | [], _ => true
  | d :: ds, k => isPlain d k && isPlains ds k
end
theorem isPlains_map : ∀ (ds : List PyData) (k : Int), isPlains ds k = (ds.map fun d => isPlain d k).all id
  | [], _ => rfl
  | d :: ds, k => by
    rw [List.map_cons, List.all_cons, ← isPlains_map ds k]
    rfl
def fPlain (n : Nat) : List PyData → Option PyData
  | [d, .int k] => if d.depth < n ∧ lens d = true then some (.bool (isPlain d k)) else none
  | _ => none
/-- the text of a ratio -/
def rText (t b : Int) : Str := (if sgn t < 0 then ("-" : Str) else ("" : Str)) ++ Str.ofString (toString ((t.natAbs : Nat) : Int)) ++ (if b = 1 then ("" : Str) else ("/" : Str) ++ Str.ofString (toString b))
def rText2 : List PyData → Str
  | [.int t, .int b] => rText t b
  | _ => ""
def fRText : List PyData → Option PyData
  | [.int i] => if i.natAbs < 10 ^ 400 then some (.str (rText i 1)) else none
  | [.tuple [.int t, .int b]] => if t.natAbs < 10 ^ 400 ∧ 1 ≤ b ∧ b.natAbs < 10 ^ 400 then some (.str (rText t b)) else none
  | _ => none
mutual
def textV : PyData → Str
  | .int i => rText i 1
  | .tuple ds => if isRatio (.tuple ds) = true then rText2 ds else if ds.length = 1 then ("(" : Str) ++ (textVs ds).headD "" ++ ",)" else ("(" : Str) ++ Txt.join ", " (textVs ds) ++ ")"
  | _ => ""
def textVs : List PyData → List Str
  | [] => []
  | d :: ds => textV d :: textVs ds
end
theorem textVs_len : ∀ ds : List PyData, (textVs ds).length = ds.length
  | [] => rfl
  | _ :: ds => congrArg Nat.succ (textVs_len ds)
/- a value whose text may be asked: no list in it, its ratios not too great, the text not too long -/
mutual
def talks : PyData → Bool
  | .int i => decide (i.natAbs < 10 ^ 400)
  | .tuple ds => if isRatio (.tuple ds) = true then small2 ds else talksAll ds
  | _ => false
def talksAll : List PyData → Bool
  | [] => true
  | d :: ds => talks d && talksAll ds
end
theorem talks_mem : ∀ {ds : List PyData}, talksAll ds = true → ∀ d ∈ ds, talks d = true
  | [], _, d, h => by cases h
  | x :: xs, k, d, h => by
    simp only [talksAll, Bool.and_eq_true] at k
    rcases List.mem_cons.mp h with e | e
    · rw [e]; exact k.1
    · exact talks_mem k.2 d e
def fText (n : Nat) : List PyData → Option PyData
  | [d] => if d.depth < n ∧ talks d = true ∧ lens d = true ∧ (textV d).length ≤ 1000000 then some (.str (textV d)) else none
  | _ => none
section
variable {g : Gd}
theorem sc_pair : FnScope ["number"] ["number"] (defScope s_pair) := ⟨rfl, rfl, rfl, by decide +kernel, rfl, by decide +kernel, by decide +kernel⟩
theorem ok_pair (T : Nm g.mg) (F : FT g "pair" s_pair) : Fd g "pair" ["number"] 1 (spF g.K 1 fPair) := by
  obtain ⟨f, fd, F, hm⟩ := F
  refine fd_of F hm sc_pair (fun _ _ _ _ h => h.1) (fun _ _ _ _ _ _ us hl => match us, hl with | [_], _ => rfl) (fun cdv A outer s H vs Q E hr h => ?_)
  obtain ⟨hl, ds, r, hd, hf, k⟩ := h
  obtain ⟨v, d, rfl, rfl, hv⟩ := one_of hl hd
  cases d with
  | int i =>
    obtain rfl := Option.some.inj (show some (PyData.tuple [.int i, .int 1]) = some r from hf)
    exact ws_retD (vd_if (vt_val (vd_isi T.isinstance T.int bt_int (vd_var 0 rfl hv) (kit_int _))) (fun _ => vd_tup (va2 (vd_var 0 rfl hv) vd_int) (by simp)) fun ht => Bool.noConfusion (show true = false from ht)) fun v H1 e1 dv => k v H1 e1 dv
  | tuple ds =>
    obtain rfl := Option.some.inj (show some (PyData.tuple ds) = some r from hf)
    exact ws_retD (vd_if (vt_val (vd_isi T.isinstance T.int bt_int (vd_var 0 rfl hv) (kit_int _))) (fun ht => Bool.noConfusion (show false = true from ht)) fun ht => vd_var 0 rfl hv) fun v H1 e1 dv => k v H1 e1 dv
  | _ => cases hf
theorem sc_opposite : FnScope ["number"] ["number"] (defScope s_opposite) := ⟨rfl, rfl, rfl, by decide +kernel, rfl, by decide +kernel, by decide +kernel⟩
theorem ok_opposite (T : Nm g.mg) (F : FT g "opposite" s_opposite) : Fd g "opposite" ["number"] 1 (spF g.K 1 fOpposite) := by
  obtain ⟨f, fd, F, hm⟩ := F
  refine fd_of F hm sc_opposite (fun _ _ _ _ h => h.1) (fun _ _ _ _ _ _ us hl => match us, hl with | [_], _ => rfl) (fun cdv A outer s H vs Q E hr h => ?_)
  obtain ⟨hl, ds, r, hd, hf, k⟩ := h
  obtain ⟨v, d, rfl, rfl, hv⟩ := one_of hl hd
  match d, hv, hf with
  | .int i, hv, hf =>
    obtain rfl := Option.some.inj (show some (PyData.int (-i)) = some r from hf)
    exact ws_retD (vd_if (vt_val (vd_isi T.isinstance T.int bt_int (vd_var 0 rfl hv) (kit_int _))) (fun _ => vd_neg (vd_var 0 rfl hv)) fun ht => Bool.noConfusion (show true = false from ht)) fun v H1 e1 dv => k v H1 e1 dv
  | .tuple [.int t, .int b], hv, hf =>
    obtain rfl := Option.some.inj (show some (PyData.tuple [.int (-t), .int b]) = some r from hf)
    exact ws_retD (vd_if (vt_val (vd_isi T.isinstance T.int bt_int (vd_var 0 rfl hv) (kit_int _))) (fun ht => Bool.noConfusion (show false = true from ht)) fun ht => vd_tup (va2 (vd_neg (vd_ixT (vd_var 0 rfl hv) vd_int rfl)) (vd_ixT (vd_var 0 rfl hv) vd_int rfl)) (by simp)) fun v H1 e1 dv => k v H1 e1 dv
theorem sc_sign_of : FnScope ["number", "top"] ["number"] (defScope s_sign_of) := ⟨rfl, rfl, rfl, by decide +kernel, rfl, by decide +kernel, by decide +kernel⟩
theorem sign_end {X : Cx} {σ : St} {H : Hp} {D : Ends} {t : Int} {a b : Int} {e1 e2 e3 : Expr} (h : True) : True := h
theorem ok_sign_of (T : Nm g.mg) (F : FT g "sign_of" s_sign_of) : Fd g "sign_of" ["number"] 1 (spF g.K 1 fSign) := by
  obtain ⟨f, fd, F, hm⟩ := F
  refine fd_of F hm sc_sign_of (fun _ _ _ _ h => h.1) (fun _ _ _ _ _ _ us hl => match us, hl with | [_], _ => rfl) (fun cdv A outer s H vs Q E hr h => ?_)
  obtain ⟨hl, ds, r, hd, hf, k⟩ := h
  obtain ⟨v, d, rfl, rfl, hv⟩ := one_of hl hd
  have key : ∃ t : Int, r = .int (sgn t) ∧ ((d = .int t) ∨ ∃ b, d = .tuple [.int t, .int b]) := by
    match d, hf with
    | .int t, hf => exact ⟨t, (Option.some.inj hf).symm, .inl rfl⟩
    | .tuple [.int t, .int b], hf => exact ⟨t, (Option.some.inj hf).symm, .inr ⟨b, rfl⟩⟩
  obtain ⟨t, rfl, hd'⟩ := key
  refine ws_setI (d := t) 1 sc_sign_of.nd ?_ fun H1 e1 => ?_
  · rcases hd' with rfl | ⟨b, rfl⟩
    · exact vd_if (vt_val (vd_isi T.isinstance T.int bt_int (vd_var 0 rfl hv) (kit_int _))) (fun _ => vd_var 0 rfl hv) fun ht => Bool.noConfusion (show true = false from ht)
    · exact vd_if (vt_val (vd_isi T.isinstance T.int bt_int (vd_var 0 rfl hv) (kit_int _))) (fun ht => Bool.noConfusion (show false = true from ht)) fun ht => vd_ixT (vd_var 0 rfl hv) vd_int rfl
  · refine ws_retD (d := .int (sgn t)) (vd_if (vt_gt (vd_var 1 rfl (.int t)) vd_int) (fun z => vd_int.to ?_) fun z => vd_if (vt_lt (vd_var 1 rfl (.int t)) vd_int) (fun z2 => (vd_neg vd_int).to ?_) fun z2 => vd_int.to ?_) fun v H2 e2 dv => k v H2 (Evl.Ex.trans e1 e2) dv
    · have z' := of_decide_eq_true z
      unfold sgn
      rw [if_pos z']
    · have z' := of_decide_eq_false z
      have z2' := of_decide_eq_true z2
      unfold sgn
      rw [if_neg z', if_pos z2']
    · have z' := of_decide_eq_false z
      have z2' := of_decide_eq_false z2
      unfold sgn
      rw [if_neg z', if_neg z2']
theorem sc_is_list : FnScope ["value"] ["value"] (defScope s_is_list) := ⟨rfl, rfl, rfl, by decide +kernel, rfl, by decide +kernel, by decide +kernel⟩
theorem ok_is_list (T : Nm g.mg) (F : FT g "is_list" s_is_list) : Fd g "is_list" ["value"] 1 (spF g.K 1 fIsList) := by
  obtain ⟨f, fd, F, hm⟩ := F
  refine fd_of F hm sc_is_list (fun _ _ _ _ h => h.1) (fun _ _ _ _ _ _ us hl => match us, hl with | [_], _ => rfl) (fun cdv A outer s H vs Q E hr h => ?_)
  obtain ⟨hl, ds, r, hd, hf, k⟩ := h
  obtain ⟨v, d, rfl, rfl, hv⟩ := one_of hl hd
  refine ws_retD ((vd_isi2 T.isinstance T.list bt_list T.tuple bt_tuple (vd_var 0 rfl hv) (kit_list d) (kit_tuple d)).to ?_) fun v H1 e1 dv => k v H1 e1 dv
  cases d <;> exact Option.some.inj hf
theorem sc_as_tuples : FnScope ["value", "one"] ["value"] (defScope s_as_tuples) := ⟨rfl, rfl, rfl, by decide +kernel, rfl, by decide +kernel, by decide +kernel⟩
theorem st_as_tuples (T : Nm g.mg) (F : FT g "as_tuples" s_as_tuples) (n : Nat) (G : Fd g "as_tuples" ["value"] n (spF g.K 1 (fAsT n))) : Fd g "as_tuples" ["value"] (n + 1) (spF g.K 1 (fAsT (n + 1))) := by
  obtain ⟨f, fd, F, hm⟩ := F
  refine fd_of F hm sc_as_tuples (fun _ _ _ _ h => h.1) (fun _ _ _ _ _ _ us hl => match us, hl with | [_], _ => rfl) (fun cdv A outer s H vs Q E hr h => ?_)
  obtain ⟨hl, ds, r, hd, hf, k⟩ := h
  obtain ⟨v, d, rfl, rfl, hv⟩ := one_of hl hd
  have hf' : (if d.depth < n + 1 ∧ imm (asT d) = true ∧ lens d = true then some (asT d) else none) = some r := hf
  by_cases hc : d.depth < n + 1 ∧ imm (asT d) = true ∧ lens d = true
  · rw [if_pos hc] at hf'
    obtain rfl := Option.some.inj hf'
    obtain ⟨hdep, him, hlen⟩ := hc
    have elem : ∀ ds : List PyData, immAll (asTs ds) = true → lensAll ds = true → PyData.depthAll ds + 1 < n + 1 → ∀ (i : Nat) (d f : PyData), ds[i]? = some d → (asTs ds)[i]? = some f → fAsT n [d] = some f := fun ds him hle hdep i d f h1 h2 => by
      have e := asTs_at h1 h2
      subst e
      exact if_pos ⟨Nat.lt_of_le_of_lt (depth_at (List.mem_of_getElem? h1)) (by omega), imm_mem him _ (List.mem_of_getElem? h2), lens_mem hle _ (List.mem_of_getElem? h1)⟩
    refine ws_if (vt_val (vd_isi2 T.isinstance T.list bt_list T.tuple bt_tuple (vd_var 0 rfl hv) (kit_list d) (kit_tuple d))) (fun ht H1 e1 => ?_) (fun ht H1 e1 => ?_)
    · have hv1 := hv.up e1
      cases d with
      | list ds =>
        have him2 : immAll (asTs ds) = true := by simpa [asT, imm] using him
        rw [depth_list] at hdep
        obtain ⟨l1, l2⟩ := lens_list hlen
        exact ws_retD (vd_tuple T.tuple (VL.vd (vl_lcL ["value", "one"] (defScope s_as_tuples) 1 (vd_var 0 rfl hv1) (asTs_len ds) him2 (by rw [asTs_len]; exact l1)
          (fun i d w f H2 h1 h2 e2 dw s H0 C cl fp => vd_call G hr (va1 (vd_var 1 rfl dw)) rfl (elem ds him2 l2 hdep i d f h1 h2)) rfl sc_as_tuples.nd))) fun v H3 e3 dv => k v H3 (Evl.Ex.trans e1 e3) dv
      | tuple ds =>
        have him2 : immAll (asTs ds) = true := by simpa [asT, imm] using him
        rw [depth_tuple] at hdep
        obtain ⟨l1, l2⟩ := lens_tuple hlen
        exact ws_retD (vd_tuple T.tuple (VL.vd (vl_lcT ["value", "one"] (defScope s_as_tuples) 1 (vd_var 0 rfl hv1) (asTs_len ds) him2 (by rw [asTs_len]; exact l1)
          (fun i d w f H2 h1 h2 e2 dw s H0 C cl fp => vd_call G hr (va1 (vd_var 1 rfl dw)) rfl (elem ds him2 l2 hdep i d f h1 h2)) rfl sc_as_tuples.nd))) fun v H3 e3 dv => k v H3 (Evl.Ex.trans e1 e3) dv
      | _ => exact Bool.noConfusion (show false = true from ht)
    · refine ws_nil (ws_retD (vd_var 0 rfl (hv.up e1)) fun v H3 e3 dv => k v H3 (Evl.Ex.trans e1 e3) ?_)
      cases d with
      | list ds => exact Bool.noConfusion (show true = false from ht)
      | tuple ds => exact Bool.noConfusion (show true = false from ht)
      | _ => exact dv
  · rw [if_neg hc] at hf'
    cases hf'
theorem ok_as_tuples (T : Nm g.mg) (F : FT g "as_tuples" s_as_tuples) : ∀ n, Fd g "as_tuples" ["value"] n (spF g.K 1 (fAsT n))
  | 0 => fd_vac F (fun vs H Q E ⟨hl, ds, r, hd, hf, _⟩ => by
      obtain ⟨v, d, rfl, rfl, hv⟩ := one_of hl hd
      have hf' : (if d.depth < 0 ∧ imm (asT d) = true ∧ lens d = true then some (asT d) else none) = some r := hf
      rw [if_neg (by omega)] at hf'
      cases hf') (fun _ _ _ _ _ _ us hl => match us, hl with | [_], _ => rfl)
  | n + 1 => st_as_tuples T F n (ok_as_tuples T F n)
end
end G

/-! # D3: is_small, is_plain, the texts -/
namespace G
open PySem PySem.Spec PyProof.Rows L2
theorem ten400 : ((10 : Int) ^ Int.toNat 50) ^ Int.toNat 8 = 10 ^ 400 := by decide +kernel
/-- the length of a number's text -/
theorem num_len {n k : Nat} (hk : 0 < k) (h : n < 10 ^ k) : (Str.ofString (toString ((n : Nat) : Int))).length ≤ k := by
  rw [TL.len_tl, TL.tl_num]
  exact TL.numL_len hk h
theorem log_lt {n : Nat} (h : n < 10 ^ 400) : n.log2 < 1920 := by
  by_cases h0 : n = 0
  · subst h0; decide
  · exact (Nat.log2_lt h0).mpr (Nat.lt_trans h (by decide +kernel))
theorem len_app (x y : Str) : (x ++ y).length = x.length + y.length := by
  rw [TL.len_tl, TL.len_tl, TL.len_tl, TL.tl_append, List.length_append]
theorem rText_len {t b : Int} (h1 : t.natAbs < 10 ^ 400) (h0 : 1 ≤ b) (h2 : b.natAbs < 10 ^ 400) : (rText t b).length ≤ 1000 := by
  have z1 := num_len (by decide) h1
  have z2 := num_len (by decide) h2
  have eb : ((b.natAbs : Nat) : Int) = b := by omega
  rw [eb] at z2
  unfold rText
  rw [len_app, len_app]
  have z3 : (if sgn t < 0 then ("-" : Str) else ("" : Str)).length ≤ 1 := by split <;> decide
  have z4 : (if b = 1 then ("" : Str) else ("/" : Str) ++ Str.ofString (toString b)).length ≤ 401 := by
    split
    · decide
    · rw [len_app]
      have : ("/" : Str).length = 1 := by decide
      omega
  omega
/-- a def with one default -/
abbrev FTD (g : Gd) (x : Str) (st : Stmt) (dvs : List V) : Prop := ∃ f fd, FunD g.K x x (defArgs st) (defBody st) (defScope st) dvs [] f fd ∧ g.mg x = some (.ref f)
section
variable {g : Gd}
theorem sc_is_small : FnScope ["one", "top", "bottom", "most"] ["one"] (defScope s_is_small) := ⟨rfl, rfl, rfl, by decide +kernel, rfl, by decide +kernel, by decide +kernel⟩
theorem ok_is_small (T : Nm g.mg) (F : FT g "is_small" s_is_small) (GP : Fd g "pair" ["number"] 1 (spF g.K 1 fPair)) : Fd g "is_small" ["one"] 2 (spF g.K 1 fSmall) := by
  obtain ⟨f, fd, F, hm⟩ := F
  refine fd_of F hm sc_is_small (fun _ _ _ _ h => h.1) (fun _ _ _ _ _ _ us hl => match us, hl with | [_], _ => rfl) (fun cdv A outer s H vs Q E hr h => ?_)
  obtain ⟨hl, ds, r, hd, hf, k⟩ := h
  obtain ⟨v, d, rfl, rfl, hv⟩ := one_of hl hd
  have key : ∃ t b : Int, fPair [d] = some (.tuple [.int t, .int b]) ∧ r = .bool (smallR t b) := by
    match d, hf with
    | .int i, hf => exact ⟨i, 1, rfl, (Option.some.inj hf).symm⟩
    | .tuple [.int t, .int b], hf => exact ⟨t, b, rfl, (Option.some.inj hf).symm⟩
  obtain ⟨t, b, hp, rfl⟩ := key
  refine ws_unp2 1 2 rfl sc_is_small.nd ((vd_call GP hr (va1 (vd_var 0 rfl hv)) rfl hp).use fun w H1 e1 dw => ?_)
  obtain ⟨l, u1, u2, ev, sq, d1, d2⟩ := tup2_v dw
  obtain rfl := d1.int_v
  obtain rfl := d2.int_v
  refine ⟨l, _, _, ev, sq, ?_⟩
  refine ws_setI (d := 10 ^ 400) 3 sc_is_small.nd ((vd_pow (vd_pow vd_int vd_int ⟨by decide, by decide +kernel⟩) vd_int ⟨by decide, by decide +kernel⟩).to (congrArg PyData.int ten400)) fun H2 e2 => ?_
  exact ws_retD (vd_and (vd_lt (vd_abs T.abs (vd_var 1 rfl (.int t))) (vd_var 3 rfl (.int (10 ^ 400)))) fun _ => vd_one (vd_lt (vd_var 2 rfl (.int b)) (vd_var 3 rfl (.int (10 ^ 400))))) fun w H3 e3 dw => k w H3 (Evl.Ex.trans e1 (Evl.Ex.trans e2 e3)) dw
theorem sc_is_plain : FnScope ["value", "deep", "one"] ["value", "deep"] (defScope s_is_plain) := ⟨rfl, rfl, rfl, by decide +kernel, rfl, by decide +kernel, by decide +kernel⟩
/-- is_plain, all arguments given; with the default -/
def FP (g : Gd) (n : Nat) : Prop := Fd g "is_plain" ["value", "deep"] (n + 3) (spF g.K 2 (fPlain n)) ∧ Fd g "is_plain" ["value", "deep"] (n + 3) (spF g.K 2 (fPlain n)) [.int 0]
theorem bind_plain {K : PySem.W.Frag} {f : Addr} {fd : FuncData} (F : FunD K "is_plain" "is_plain" (defArgs s_is_plain) (defBody s_is_plain) (defScope s_is_plain) [.int 0] [] f fd) : Binds K fd ["value", "deep"] [] ∧ ∃ ds, Vals [V.int 0] ds ∧ Binds K fd ["value", "deep"] ds := by
  constructor
  · obtain ⟨ds, r, b⟩ := F.binds1 (ps := ["value", "deep"]) 2 1 (by simp) rfl (fun T kV doc pm an cdv ct us its h1 h2 => match us, its, h1, h2 with | [_, _], [_], _, _ => ⟨_, rfl, rfl⟩)
    cases r
    exact b
  · exact F.binds1 (ps := ["value", "deep"]) 1 0 (by simp) rfl (fun T kV doc pm an cdv ct us its h1 h2 => match us, its, h1, h2 with | [_], [_], _, _ => ⟨_, rfl, rfl⟩)
theorem fp_mk {f : Addr} {fd : FuncData} {n : Nat} (F : FunD g.K "is_plain" "is_plain" (defArgs s_is_plain) (defBody s_is_plain) (defScope s_is_plain) [.int 0] [] f fd) (hm : g.mg "is_plain" = some (.ref f)) (ok : FnOk g.P g.w g.K g.mg g.base (CXg g) (n + 3) f fd ["value", "deep"] (spF g.K 2 (fPlain n))) : FP g n := by
  obtain ⟨b1, ds, r, b2⟩ := bind_plain F
  exact ⟨⟨f, fd, [], ok, hm, F.kp, .nil, b1⟩, ⟨f, fd, ds, ok, hm, F.kp, r, b2⟩⟩
theorem isListF (d : PyData) : fIsList [d] = some (.bool (isListB d || isTupleB d)) := by cases d <;> rfl
theorem isPlain_ratio {d : PyData} {k : Int} (h : isRatio d = true) : ∃ r, fSmall [d] = some (.bool r) ∧ isPlain d k = r := by
  match d, h with
  | .int i, _ => exact ⟨_, rfl, by simp [isPlain]⟩
  | .tuple [.int t, .int b], h => exact ⟨_, rfl, by simp only [isPlain]; rw [if_pos h]; rfl⟩
theorem st_is_plain (T : Nm g.mg) (F : FTD g "is_plain" s_is_plain [.int 0]) (GR : Fd g "is_ratio" ["value"] 2 (spF g.K 1 fIsRatio)) (GS : Fd g "is_small" ["one"] 2 (spF g.K 1 fSmall)) (GL : Fd g "is_list" ["value"] 1 (spF g.K 1 fIsList)) (n : Nat) (G : FP g n) : FP g (n + 1) := by
  obtain ⟨f, fd, F, hm⟩ := F
  refine fp_mk F hm (F.ok sc_is_plain (fun _ _ _ _ h => h.1) fun cdv A outer s H vs Q E hr h => ⟨_, WS.ps, ?_⟩)
  obtain ⟨hl, ds, r, hd, hf, k⟩ := h
  obtain ⟨v, u, d, e, rfl, rfl, hv, hu⟩ := two_of hl hd
  obtain ⟨m, rfl⟩ : ∃ m, e = .int m := by
    cases e with
    | int m => exact ⟨m, rfl⟩
    | _ => cases hf
  obtain rfl := hu.int_v
  have hf' : (if d.depth < n + 1 ∧ lens d = true then some (PyData.bool (isPlain d m)) else none) = some r := hf
  by_cases hc : d.depth < n + 1 ∧ lens d = true
  · rw [if_pos hc] at hf'
    obtain rfl := Option.some.inj hf'
    obtain ⟨hdep, hlen⟩ := hc
    refine ws_if (vt_val (vd_call (r := .bool (isRatio d)) GR (hr.mono (by omega)) (va1 (vd_var 0 rfl hv)) rfl rfl)) (fun ht H1 e1 => ?_) (fun ht H1 e1 => ?_)
    · obtain ⟨r, h1, h2⟩ := isPlain_ratio (k := m) ht
      rw [h2] at k
      exact ws_retD (vd_call GS (hr.mono (by omega)) (va1 (vd_var 0 rfl (hv.up e1))) rfl h1) fun w H3 e3 dw => k w H3 (Evl.Ex.trans e1 e3) dw
    · have hv1 := hv.up e1
      refine ws_nil ?_
      have elem : ∀ ds : List PyData, lensAll ds = true → PyData.depthAll ds + 1 < n + 1 → ∀ (i : Nat) (d f : PyData), ds[i]? = some d → (blD (ds.map fun d => isPlain d (m + 1)))[i]? = some f → fPlain n [d, .int (m + 1)] = some f := fun ds hle hdep i d f h1 h2 => by
        unfold blD at h2
        rw [List.getElem?_map, List.getElem?_map, h1] at h2
        rw [← Option.some.inj h2]
        exact if_pos ⟨Nat.lt_of_le_of_lt (depth_at (List.mem_of_getElem? h1)) (by omega), lens_mem hle _ (List.mem_of_getElem? h1)⟩
      cases d with
      | list ds =>
        rw [depth_list] at hdep
        obtain ⟨l1, l2⟩ := lens_list hlen
        refine ws_retD ((vd_and (vd_call GL (hr.mono (by omega)) (va1 (vd_var 0 rfl hv1)) rfl (isListF _)) fun _ => vd_and (vd_lt (vd_var 1 rfl (.int m)) (vd_gint T.deep.choose_spec)) fun _ => vd_one (vd_all T.all rfl (VL.vd (vl_lcL ["value", "deep", "one"] (defScope s_is_plain) 2 (vd_var 0 rfl hv1) (by simp [blD]) (immAll_blD (ds.map fun d => isPlain d (m + 1))) (by simpa [blD] using l1)
          (fun i d w f H2 h1 h2 e2 dw s H0 C cl fp => vd_call G.1 hr (va2 (vd_var 2 rfl dw) (vd_add (vd_var 1 rfl (.int m)) vd_int)) rfl (elem ds l2 hdep i d f h1 h2)) rfl sc_is_plain.nd)))).to (?_ : _ = PyData.bool (isPlain (.list ds) m))) fun w H3 e3 dw => k w H3 (Evl.Ex.trans e1 e3) dw
        simp only [isPlain, isPlains_map, isListB, Bool.true_or, Bool.true_and]
      | tuple ds =>
        rw [depth_tuple] at hdep
        obtain ⟨l1, l2⟩ := lens_tuple hlen
        refine ws_retD ((vd_and (vd_call GL (hr.mono (by omega)) (va1 (vd_var 0 rfl hv1)) rfl (isListF _)) fun _ => vd_and (vd_lt (vd_var 1 rfl (.int m)) (vd_gint T.deep.choose_spec)) fun _ => vd_one (vd_all T.all rfl (VL.vd (vl_lcT ["value", "deep", "one"] (defScope s_is_plain) 2 (vd_var 0 rfl hv1) (by simp [blD]) (immAll_blD (ds.map fun d => isPlain d (m + 1))) (by simpa [blD] using l1)
          (fun i d w f H2 h1 h2 e2 dw s H0 C cl fp => vd_call G.1 hr (va2 (vd_var 2 rfl dw) (vd_add (vd_var 1 rfl (.int m)) vd_int)) rfl (elem ds l2 hdep i d f h1 h2)) rfl sc_is_plain.nd)))).to (?_ : _ = PyData.bool (isPlain (.tuple ds) m))) fun w H3 e3 dw => k w H3 (Evl.Ex.trans e1 e3) dw
        simp only [isPlain, isPlains_map, isListB, isTupleB, Bool.false_or, Bool.true_and]
        rw [if_neg (by rw [ht]; decide)]
      | int i => exact Bool.noConfusion (show true = false from ht)
      | none => exact ws_retD (vd_and (u := false) (vd_call GL (hr.mono (by omega)) (va1 (vd_var 0 rfl hv1)) rfl (isListF _)) fun z => Bool.noConfusion (show false = true from z)) fun w H3 e3 dw => k w H3 (Evl.Ex.trans e1 e3) dw
      | bool b => exact ws_retD (vd_and (u := false) (vd_call GL (hr.mono (by omega)) (va1 (vd_var 0 rfl hv1)) rfl (isListF _)) fun z => Bool.noConfusion (show false = true from z)) fun w H3 e3 dw => k w H3 (Evl.Ex.trans e1 e3) dw
      | str b => exact ws_retD (vd_and (u := false) (vd_call GL (hr.mono (by omega)) (va1 (vd_var 0 rfl hv1)) rfl (isListF _)) fun z => Bool.noConfusion (show false = true from z)) fun w H3 e3 dw => k w H3 (Evl.Ex.trans e1 e3) dw
      | dict b => cases hv
  · rw [if_neg hc] at hf'
    cases hf'
theorem ok_is_plain (T : Nm g.mg) (F : FTD g "is_plain" s_is_plain [.int 0]) (GR : Fd g "is_ratio" ["value"] 2 (spF g.K 1 fIsRatio)) (GS : Fd g "is_small" ["one"] 2 (spF g.K 1 fSmall)) (GL : Fd g "is_list" ["value"] 1 (spF g.K 1 fIsList)) : ∀ n, FP g n
  | 0 => by
    obtain ⟨f, fd, F, hm⟩ := F
    have no : ∀ vs H Q E, ¬ spF g.K 2 (fPlain 0) vs H Q E := fun vs H Q E ⟨hl, ds, r, hd, hf, _⟩ => by
      obtain ⟨v, u, d, e, rfl, rfl, hv, hu⟩ := two_of hl hd
      cases e with
      | int m =>
        have hf' : (if d.depth < 0 ∧ lens d = true then some (PyData.bool (isPlain d m)) else none) = some r := hf
        rw [if_neg (by omega)] at hf'
        cases hf'
      | _ => cases hf
    exact fp_mk F hm ⟨fun vs H Q E h => absurd h (no vs H Q E), fun A outer s H args us vs Q E _ _ _ _ h => absurd h (no vs H Q E)⟩
  | n + 1 => st_is_plain T F GR GS GL n (ok_is_plain T F GR GS GL n)
theorem sc_ratio_text : FnScope ["one", "top", "bottom"] ["one"] (defScope s_ratio_text) := ⟨rfl, rfl, rfl, by decide +kernel, rfl, by decide +kernel, by decide +kernel⟩
theorem ok_ratio_text (T : Nm g.mg) (F : FT g "ratio_text" s_ratio_text) (GP : Fd g "pair" ["number"] 1 (spF g.K 1 fPair)) (GS : Fd g "sign_of" ["number"] 1 (spF g.K 1 fSign)) : Fd g "ratio_text" ["one"] 2 (spF g.K 1 fRText) := by
  obtain ⟨f, fd, F, hm⟩ := F
  refine fd_of F hm sc_ratio_text (fun _ _ _ _ h => h.1) (fun _ _ _ _ _ _ us hl => match us, hl with | [_], _ => rfl) (fun cdv A outer s H vs Q E hr h => ?_)
  obtain ⟨hl, ds, r, hd, hf, k⟩ := h
  obtain ⟨v, d, rfl, rfl, hv⟩ := one_of hl hd
  have key : ∃ t b : Int, fPair [d] = some (.tuple [.int t, .int b]) ∧ fSign [d] = some (.int (sgn t)) ∧ r = .str (rText t b) ∧ t.natAbs < 10 ^ 400 ∧ 1 ≤ b ∧ b.natAbs < 10 ^ 400 := by
    match d, hf with
    | .int i, hf =>
      have hf' : (if i.natAbs < 10 ^ 400 then some (PyData.str (rText i 1)) else none) = some r := hf
      by_cases hc : i.natAbs < 10 ^ 400
      · rw [if_pos hc] at hf'
        exact ⟨i, 1, rfl, rfl, (Option.some.inj hf').symm, hc, by decide, by decide +kernel⟩
      · rw [if_neg hc] at hf'
        cases hf'
    | .tuple [.int t, .int b], hf =>
      have hf' : (if t.natAbs < 10 ^ 400 ∧ 1 ≤ b ∧ b.natAbs < 10 ^ 400 then some (PyData.str (rText t b)) else none) = some r := hf
      by_cases hc : t.natAbs < 10 ^ 400 ∧ 1 ≤ b ∧ b.natAbs < 10 ^ 400
      · rw [if_pos hc] at hf'
        exact ⟨t, b, rfl, rfl, (Option.some.inj hf').symm, hc⟩
      · rw [if_neg hc] at hf'
        cases hf'
  obtain ⟨t, b, hp, hs, rfl, h1, h0, h2⟩ := key
  refine ws_unp2 1 2 rfl sc_ratio_text.nd ((vd_call GP hr (va1 (vd_var 0 rfl hv)) rfl hp).use fun w H1 e1 dw => ?_)
  obtain ⟨l, u1, u2, ev, sq, d1, d2⟩ := tup2_v dw
  obtain rfl := d1.int_v
  obtain rfl := d2.int_v
  refine ⟨l, _, _, ev, sq, ?_⟩
  have z := rText_len h1 h0 h2
  unfold rText at z
  rw [len_app, len_app] at z
  have z1 : (1000 : Nat) ≤ sizeLine := by decide
  have eb : ((b.natAbs : Nat) : Int) = b := by omega
  refine ws_retD (vd_addS (vd_addS (vd_if (vt_lt (vd_call GS hr (va1 (vd_var 0 rfl (hv.up e1))) rfl hs) vd_int) (fun q => vd_str.to (by rw [if_pos (of_decide_eq_true q)])) fun q => vd_str.to (by rw [if_neg (of_decide_eq_false q)])) (vd_str1 T.str (vd_abs T.abs (vd_var 1 rfl (.int t))) (log_lt h1)) (by omega))
    (vd_if (vt_eq (vd_var 2 rfl (.int b)) vd_int) (fun q => vd_str.to (by rw [if_pos (of_decide_eq_true q)])) fun q => (vd_addS vd_str (vd_str1 T.str (vd_var 2 rfl (.int b)) (log_lt h2)) ?_).to (by rw [if_neg (of_decide_eq_false q)])) (by rw [len_app]; omega)) fun w H3 e3 dw => k w H3 (Evl.Ex.trans e1 e3) dw
  have z2 := num_len (by decide) h2
  rw [eb] at z2
  have : ("/" : Str).length = 1 := by decide
  omega
end
end G

/-! # D4: text_of_value -/
namespace G
open PySem PySem.Spec PyProof.Rows L2
theorem joinL_len (S : List Nat) : ∀ ps : List (List Nat), ps ≠ [] → (TL.joinL S ps).length + S.length = (ps.map List.length).sum + ps.length * S.length
  | [], h => absurd rfl h
  | [p], _ => by
    show p.length + S.length = ([p.length] : List Nat).sum + 1 * S.length
    simp
  | p :: q :: r, _ => by
    have ih := joinL_len S (q :: r) (by simp)
    show (p ++ (S ++ TL.joinL S (q :: r))).length + S.length = (p.length :: (q :: r).map List.length).sum + ((q :: r).length + 1) * S.length
    rw [List.length_append, List.length_append, List.sum_cons, Nat.succ_mul]
    omega
theorem join_len (z : Str) (xs : List Str) (h : xs ≠ []) : (Txt.join z xs).length + z.length = (xs.map (·.length)).sum + xs.length * z.length := by
  have e := joinL_len (TL.tl z) (xs.map TL.tl) (by simpa using h)
  rw [TL.len_tl, TL.join_eq, TL.tl_join, TL.len_tl z, e, List.map_map, List.length_map]
  congr 2
  try exact List.map_congr_left fun x _ => (TL.len_tl x).symm
theorem sum_mem {l : List Nat} {n : Nat} (h : n ∈ l) : n ≤ l.sum := by
  induction l with
  | nil => cases h
  | cons a r ih =>
    rw [List.sum_cons]
    rcases List.mem_cons.mp h with e | e
    · omega
    · have := ih e
      omega
theorem textVs_at : ∀ {ds : List PyData} {i : Nat} {d : PyData}, ds[i]? = some d → (textVs ds)[i]? = some (textV d)
  | [], _, _, h => by simp at h
  | x :: ds, 0, d, h => by
    have h' : x = d := by simpa using h
    rw [h']
    rfl
  | x :: ds, i + 1, d, h => textVs_at (ds := ds) (i := i) (by simpa using h)
theorem int400 : (10 : Int) ^ 400 = ((10 ^ 400 : Nat) : Int) := (Int.natCast_pow 10 400).symm
theorem talks_ratio {d : PyData} (h : isRatio d = true) (t : talks d = true) : fRText [d] = some (.str (textV d)) := by
  match d, h with
  | .int i, _ =>
    have z : i.natAbs < 10 ^ 400 := by simpa [talks] using t
    show (if i.natAbs < 10 ^ 400 then some (PyData.str (rText i 1)) else none) = _
    rw [if_pos z]
    simp only [textV]
  | .tuple [.int a, .int b], h =>
    have z : small2 [.int a, .int b] = true := by
      simp only [talks] at t
      rw [if_pos h] at t
      exact t
    have z1 : decide ((a.natAbs : Int) < 10 ^ 400) = true ∧ decide (b < 10 ^ 400) = true := by
      have z' : smallR a b = true := z
      unfold smallR at z'
      simpa [Bool.and_eq_true] using z'
    have hb : 1 < b := by
      have h' : (decide (1 < b) && decide (Nat.gcd a.natAbs b.natAbs = 1)) = true := h
      rw [Bool.and_eq_true] at h'
      exact of_decide_eq_true h'.1
    have y1 := of_decide_eq_true z1.1
    have y2 := of_decide_eq_true z1.2
    have c : a.natAbs < 10 ^ 400 ∧ 1 ≤ b ∧ b.natAbs < 10 ^ 400 := by
      rw [int400] at y1 y2
      exact ⟨Int.ofNat_lt.mp y1, by omega, by omega⟩
    show (if a.natAbs < 10 ^ 400 ∧ 1 ≤ b ∧ b.natAbs < 10 ^ 400 then some (PyData.str (rText a b)) else none) = _
    rw [if_pos c]
    simp only [textV]
    rw [if_pos h]
    rfl
section
variable {g : Gd}
theorem sc_text_of_value : FnScope ["value", "one"] ["value"] (defScope s_text_of_value) := ⟨rfl, rfl, rfl, by decide +kernel, rfl, by decide +kernel, by decide +kernel⟩
theorem st_text_of_value (T : Nm g.mg) (F : FT g "text_of_value" s_text_of_value) (GR : Fd g "is_ratio" ["value"] 2 (spF g.K 1 fIsRatio)) (GT : Fd g "ratio_text" ["one"] 2 (spF g.K 1 fRText)) (n : Nat) (G : Fd g "text_of_value" ["value"] (n + 3) (spF g.K 1 (fText n))) : Fd g "text_of_value" ["value"] (n + 4) (spF g.K 1 (fText (n + 1))) := by
  obtain ⟨f, fd, F, hm⟩ := F
  refine fd_of F hm sc_text_of_value (fun _ _ _ _ h => h.1) (fun _ _ _ _ _ _ us hl => match us, hl with | [_], _ => rfl) (fun cdv A outer s H vs Q E hr h => ?_)
  obtain ⟨hl, ds, r, hd, hf, k⟩ := h
  obtain ⟨v, d, rfl, rfl, hv⟩ := one_of hl hd
  have hf' : (if d.depth < n + 1 ∧ talks d = true ∧ lens d = true ∧ (textV d).length ≤ 1000000 then some (PyData.str (textV d)) else none) = some r := hf
  by_cases hc : d.depth < n + 1 ∧ talks d = true ∧ lens d = true ∧ (textV d).length ≤ 1000000
  · rw [if_pos hc] at hf'
    obtain rfl := Option.some.inj hf'
    obtain ⟨hdep, htk, hlen, hsz⟩ := hc
    refine ws_if (vt_val (vd_call (r := .bool (isRatio d)) GR (hr.mono (by omega)) (va1 (vd_var 0 rfl hv)) rfl rfl)) (fun ht H1 e1 => ?_) (fun ht H1 e1 => ?_)
    · exact ws_retD (vd_call GT (hr.mono (by omega)) (va1 (vd_var 0 rfl (hv.up e1))) rfl (talks_ratio ht htk)) fun w H3 e3 dw => k w H3 (Evl.Ex.trans e1 e3) dw
    · refine ws_nil ?_
      have hv1 := hv.up e1
      cases d with
      | tuple ds =>
        rw [depth_tuple] at hdep
        obtain ⟨l1, l2⟩ := lens_tuple hlen
        have nr : ¬ isRatio (.tuple ds) = true := by rw [ht]; decide
        have tk : talksAll ds = true := by
          simp only [talks] at htk
          rw [if_neg nr] at htk
          exact htk
        have child : ∀ d, d ∈ ds → (textV d).length ≤ 1000000 → fText n [d] = some (.str (textV d)) := fun d hm hz => if_pos ⟨Nat.lt_of_le_of_lt (depth_at hm) (by omega), talks_mem tk d hm, lens_mem l2 d hm, hz⟩
        by_cases h1 : ds.length = 1
        · obtain ⟨x, rfl⟩ : ∃ x, ds = [x] := by
            match ds, h1 with
            | [x], _ => exact ⟨x, rfl⟩
          have et : textV (.tuple [x]) = ("(" : Str) ++ textV x ++ ",)" := by
            simp only [textV]
            rw [if_neg nr, if_pos h1]
            rfl
          rw [et] at hsz k
          rw [len_app, len_app] at hsz
          refine ws_if (vt_eq (vd_lenT T.len (vd_var 0 rfl hv1)) vd_int) (fun q H2 e2 => ?_) (fun q H2 e2 => ?_)
          · have z : (1000000 : Nat) ≤ sizeLine := by decide
            exact ws_retD (vd_addS (vd_addS vd_str (vd_call G hr (va1 (vd_ixT (vd_var 0 rfl (hv1.up e2)) vd_int rfl)) rfl (child x (List.mem_cons_self ..) (by omega))) (by omega)) vd_str (by rw [len_app]; omega)) fun w H3 e3 dw => k w H3 (Evl.Ex.trans e1 (Evl.Ex.trans e2 e3)) dw
          · exact absurd (of_decide_eq_false q) (by simp)
        · have et : textV (.tuple ds) = ("(" : Str) ++ Txt.join ", " (textVs ds) ++ ")" := by
            simp only [textV]
            rw [if_neg nr, if_neg h1]
          rw [et] at hsz k
          rw [len_app, len_app] at hsz
          have hj : ((textVs ds).map (·.length)).sum + (textVs ds).length * (", " : Str).length ≤ 1000002 := by
            by_cases h0 : ds = []
            · subst h0
              show 0 + 0 * _ ≤ _
              omega
            · have z := join_len ", " (textVs ds) (fun e => h0 (List.length_eq_zero_iff.mp (by rw [← textVs_len, e]; rfl)))
              have z2 : (", " : Str).length = 2 := by decide
              rw [← z, z2]
              omega
          refine ws_if (vt_eq (vd_lenT T.len (vd_var 0 rfl hv1)) vd_int) (fun q H2 e2 => ?_) (fun q H2 e2 => ?_)
          · exact absurd (of_decide_eq_true q) (by omega)
          · have z : (1000000 : Nat) ≤ sizeLine := by decide
            refine ws_nil (ws_retD (vd_addS (vd_addS vd_str (vd_join vd_str (VL.vd (vl_lcT ["value", "one"] (defScope s_text_of_value) 1 (vd_var 0 rfl (hv1.up e2)) (by simp [strD, textVs_len]) (immAll_strD (textVs ds)) (by simpa [strD, textVs_len] using l1)
              (fun i d w f H2 h1 h2 e2 dw s H0 C cl fp => ?_) rfl sc_text_of_value.nd)) (Nat.le_trans hj (by decide))) (by omega)) vd_str (by rw [len_app]; omega)) fun w H3 e3 dw => k w H3 (Evl.Ex.trans e1 (Evl.Ex.trans e2 e3)) dw)
            have ef : f = .str (textV d) := by
              unfold strD at h2
              rw [List.getElem?_map, textVs_at h1] at h2
              exact (Option.some.inj h2).symm
            subst ef
            refine vd_call G hr (va1 (vd_var 1 rfl dw)) rfl (child d (List.mem_of_getElem? h1) ?_)
            have z1 : (textV d).length ∈ (textVs ds).map (·.length) := List.mem_map.mpr ⟨_, List.mem_of_getElem? (textVs_at h1), rfl⟩
            have z2 := sum_mem z1
            have z3 := join_len ", " (textVs ds) (fun e => by
              have y := textVs_at h1
              rw [e] at y
              simp at y)
            have z4 : (", " : Str).length = 2 := by decide
            have z5 : 1 ≤ (textVs ds).length := by
              have y := (List.getElem?_eq_some_iff.mp (textVs_at h1)).1
              omega
            rw [z4] at z3
            omega
      | int i => exact Bool.noConfusion (show true = false from ht)
      | _ => simp [talks] at htk
  · rw [if_neg hc] at hf'
    cases hf'
theorem ok_text_of_value (T : Nm g.mg) (F : FT g "text_of_value" s_text_of_value) (GR : Fd g "is_ratio" ["value"] 2 (spF g.K 1 fIsRatio)) (GT : Fd g "ratio_text" ["one"] 2 (spF g.K 1 fRText)) : ∀ n, Fd g "text_of_value" ["value"] (n + 3) (spF g.K 1 (fText n))
  | 0 => (fd_vac F (fun vs H Q E ⟨hl, ds, r, hd, hf, _⟩ => by
      obtain ⟨v, d, rfl, rfl, hv⟩ := one_of hl hd
      have hf' : (if d.depth < 0 ∧ talks d = true ∧ lens d = true ∧ (textV d).length ≤ 1000000 then some (PyData.str (textV d)) else none) = some r := hf
      rw [if_neg (by omega)] at hf'
      cases hf') (fun _ _ _ _ _ _ us hl => match us, hl with | [_], _ => rfl)).mono (by omega)
  | n + 1 => st_text_of_value T F GR GT n (ok_text_of_value T F GR GT n)
end
end G

/-! # P6: errors of the program's own, raised -/
namespace G
open PySem PySem.Spec PyProof.Rows L2
/-- an error's class, as the head tells it -/
structure XC (K : PySem.W.Frag) (mg : Str → Option Value) (x : Str) (C : Addr) : Prop where
  mgC : mg x = some (.ref C)
  oex : OexC K C
  exc : ExcC K C
/-- its __init__ -/
def XI (g : Gd) (C : Addr) (ps : List Str) (k : Nat) (sp : Sp) : Prop := ∃ (f : Addr) (fd : FuncData), FnOk g.P g.w g.K g.mg g.base (CXg g) k f fd ps sp ∧ PySem.W.findIn g.K (.ref C) "__init__" = some (some (.ref f)) ∧ PySem.W.typeIn g.K (.ref f) = some (.type "function") ∧ Binds g.K fd ps []
/-- the error is there: its dict, all else as it was -/
def Thrown (H : Hp) (fs : List (Str × V)) (d : Addr) (H' : Hp) : Prop := Ex H H' ∧ H' d = some (.xd fs)
/-- self.f1 = x; self.f2 = y upon a new error -/
def spInit2 (C : Addr) (f1 f2 : Str) : Sp := fun vs H Q _ => ∃ (a : Addr) (x y : V), vs = [.ref a, x, y] ∧ H a = some (exo a C none) ∧ ∀ dx, H dx = none → dx ≠ a → Q .non (upd (upd (upd H dx (exd dx [(f1, x)])) a (exo a C (some dx))) dx (exd dx [(f2, y), (f1, x)]))
def spInit1 (C : Addr) (f1 : Str) : Sp := fun vs H Q _ => ∃ (a : Addr) (x : V), vs = [.ref a, x] ∧ H a = some (exo a C none) ∧ ∀ dx, H dx = none → dx ≠ a → Q .non (upd (upd H dx (exd dx [(f1, x)])) a (exo a C (some dx)))
abbrev FTM (g : Gd) (C : Addr) (m q : Str) (st : Stmt) : Prop := ∃ f fd, FunD g.K m q (defArgs st) (defBody st) (defScope st) [] [] f fd ∧ PySem.W.findIn g.K (.ref C) m = some (some (.ref f)) ∧ PySem.W.typeIn g.K (.ref f) = some (.type "function")
section
variable {X : Cx} {e o : Expr} {es : List Expr} {σ : St} {H : Hp} {pos p q : Pos} {x : Str} {ps : List Str} {k : Nat} {rest : List Stmt} {D : Ends} {W : WX} {C : Addr}
theorem ws_ost {f : Str} {p' : Pos} (h : WE X e σ H fun y H1 => WE X o σ H1 fun v H2 => ∃ a C : Addr, v = .ref a ∧ OexC X.K C ∧ PySem.W.findIn X.K (.ref C) f = some none ∧
    ((H2 a = some (exo a C none) ∧ ∀ dx, H2 dx = none → dx ≠ a → WS X rest D σ (upd (upd H2 dx (exd dx [(f, y)])) a (exo a C (some dx)))) ∨
      ∃ (dx : Addr) (fs : List (Str × V)), H2 a = some (exo a C (some dx)) ∧ H2 dx = some (exd dx fs) ∧ fs.length ≤ 900 ∧ WS X rest D σ (upd H2 dx (exd dx ((f, y) :: fs))))) (hs : swapsWith e (some (.Attribute o f p')) pos.line X.env = pure false := by rfl) : WS X (.Assign [.Attribute o f p'] e pos :: rest) D σ H :=
  ws_cons (.of (ps_ost WE.pe WE.pe hs) h)
/-- raise x(..) -/
theorem ws_raise {sp : Sp} (hc : X.calm = true) (T : XC X.K X.mg x C) (F : XI (Cxg X) C ps k sp) (hr : Room (k + 1) X.A) (tk : Takes X W) (h : WA X (e :: es) σ H fun vs H1 => vs.length ≤ 1000 ∧ ∀ a, H1 a = none → sp (.ref a :: vs) (upd H1 a (exo a C none))
    (fun v H2 => v = .non ∧ ∃ (d : Addr) (fs : List (Str × V)), H2 a = some (exo a C (some d)) ∧ H2 d = some (exd d fs) ∧ H1 d = none ∧ W (.ref C) (some d) σ (upd (L2.del H2 a) d (.xd fs))) NoE) (hg : Gl X x := by rfl) (hdb : (x == ("__debug__" : Str)) = false := by decide)
    (he : starEach (e :: es) X.env = (false, eval e X.env) :: starEach es X.env := by rfl) (hpl : (backTo q (starEach es X.env)).any (·.1) = false := by rfl) : WS X (.Raise (some (.Call (.Name x p) (e :: es) [] q)) none pos :: rest) D σ H := by
  obtain ⟨f, fd, ok, iC, tI, hb⟩ := F
  refine ws_cons (.of (ps_raise hc tk (pmk_oex T.oex iC tI ok hr hb .nil passL hg T.mgC WA.pa hdb he hpl)) (h.mono fun vs H1 ⟨hl, k⟩ => ⟨hl, fun a ha => ?_⟩))
  rw [List.append_nil]
  exact k a ha
/-- .. of two fields -/
theorem ws_raise2 {a b : Expr} {f1 f2 : Str} (hc : X.calm = true) (T : XC X.K X.mg x C) (F : XI (Cxg X) C ps k (spInit2 C f1 f2)) (hr : Room (k + 1) X.A) (tk : Takes X W) (h : WE X a σ H fun v H1 => WE X b σ H1 fun u H2 => ∀ d H3, H2 d = none → Thrown H2 [(f2, u), (f1, v)] d H3 → W (.ref C) (some d) σ H3) (hg : Gl X x := by rfl) (hdb : (x == ("__debug__" : Str)) = false := by decide)
    (he : starEach [a, b] X.env = (false, eval a X.env) :: starEach [b] X.env := by rfl) (he2 : starEach [b] X.env = (false, eval b X.env) :: starEach [] X.env := by rfl) (hpl : (backTo q (starEach [b] X.env)).any (·.1) = false := by rfl) : WS X (.Raise (some (.Call (.Name x p) [a, b] [] q)) none pos :: rest) D σ H := by
  refine ws_raise hc T F hr tk (wa_cons (h.mono fun v H1 hb => wa_cons (hb.mono fun u H2 z => wa_nil ⟨by simp, fun l hl => ⟨l, v, u, rfl, upd_same, fun dx hdx ne => ⟨rfl, dx, [(f2, u), (f1, v)], ?_, upd_same, ?_, ?_⟩⟩⟩) he2) he) hg hdb he hpl
  · rw [upd_ne (Ne.symm ne), upd_same]
  · rw [upd_ne ne] at hdx
    exact hdx
  · have hd0 : H2 dx = none := by
      rw [upd_ne ne] at hdx
      exact hdx
    refine z dx _ hd0 ⟨fun b o hb => ?_, upd_same⟩
    have nb : b ≠ dx := ne_of_none hb hd0
    have nl : b ≠ l := ne_of_none hb hl
    rw [upd_ne nb, del_ne nl, upd_ne nb, upd_ne nl, upd_ne nb, upd_ne nl]
    exact hb
theorem ws_raise1 {a : Expr} {f1 : Str} (hc : X.calm = true) (T : XC X.K X.mg x C) (F : XI (Cxg X) C ps k (spInit1 C f1)) (hr : Room (k + 1) X.A) (tk : Takes X W) (h : WE X a σ H fun v H2 => ∀ d H3, H2 d = none → Thrown H2 [(f1, v)] d H3 → W (.ref C) (some d) σ H3) (hg : Gl X x := by rfl) (hdb : (x == ("__debug__" : Str)) = false := by decide)
    (he : starEach [a] X.env = (false, eval a X.env) :: starEach [] X.env := by rfl) (hpl : (backTo q (starEach [] X.env)).any (·.1) = false := by rfl) : WS X (.Raise (some (.Call (.Name x p) [a] [] q)) none pos :: rest) D σ H := by
  refine ws_raise hc T F hr tk (wa_cons (h.mono fun v H2 z => wa_nil ⟨by simp, fun l hl => ⟨l, v, rfl, upd_same, fun dx hdx ne => ⟨rfl, dx, [(f1, v)], upd_same, ?_, ?_, ?_⟩⟩⟩) he) hg hdb he hpl
  · rw [upd_ne ne, upd_same]
  · rw [upd_ne ne] at hdx
    exact hdx
  · have hd0 : H2 dx = none := by
      rw [upd_ne ne] at hdx
      exact hdx
    refine z dx _ hd0 ⟨fun b o hb => ?_, upd_same⟩
    have nb : b ≠ dx := ne_of_none hb hd0
    have nl : b ≠ l := ne_of_none hb hl
    rw [upd_ne nb, del_ne nl, upd_ne nl, upd_ne nb, upd_ne nl]
    exact hb
end
/-- a def's own wish of what it raises -/
theorem takesE {g : Gd} {N : List Str} {qual : Str} {sc : Scope} {f : Addr} {cd : Value} {A : Around} {outer : List Env} {s : Shared} {H : Hp} {E : XK} : Takes (cxOf (CXg g) g.P g.w g.K g.mg g.base N qual sc f cd A outer s H E) (fun cls d _ H => E cls d H) := takes_of rfl rfl rfl rfl
/-- what a callee raises goes on -/
theorem passE {g : Gd} {N : List Str} {qual : Str} {sc : Scope} {f : Addr} {cd : Value} {A : Around} {outer : List Env} {s : Shared} {H : Hp} {E : XK} : Passes (L2.CX g.P g.w) (cxOf (CXg g) g.P g.w g.K g.mg g.base N qual sc f cd A outer s H E) E := passes_call takesE fun _ _ _ _ z => z
theorem passO {g : Gd} {N : List Str} {qual : Str} {sc : Scope} {f : Addr} {cd : Value} {A : Around} {outer : List Env} {s : Shared} {H : Hp} {E : XK} : PassesOwn (model g.P g.w) (cxOf (CXg g) g.P g.w g.K g.mg g.base N qual sc f cd A outer s H E).A (cxOf (CXg g) g.P g.w g.K g.mg g.base N qual sc f cd A outer s H E).env (cxOf (CXg g) g.P g.w g.K g.mg g.base N qual sc f cd A outer s H E).xe := passes_of rfl
section
variable {g : Gd} {C : Addr}
theorem sc_BadText_init : FnScope ["self", "line", "word"] ["self", "line", "word"] (defScope s_BadText_init) := ⟨rfl, rfl, rfl, by decide +kernel, rfl, by decide +kernel, by decide +kernel⟩
theorem ok_BadText_init (F : FTM g C "__init__" "BadText.__init__" s_BadText_init) (T : XC g.K g.mg "BadText" C) (n1 : PySem.W.findIn g.K (.ref C) "line" = some none) (n2 : PySem.W.findIn g.K (.ref C) "word" = some none) : XI g C ["self", "line", "word"] 1 (spInit2 C "line" "word") := by
  obtain ⟨f, fd, F, iC, tI⟩ := F
  refine ⟨f, fd, F.ok sc_BadText_init (fun _ _ _ _ ⟨a, x, y, e, _⟩ => by rw [e] <;> rfl) (fun cdv A outer s H vs Q E hr h => ⟨_, WS.ps, ?_⟩), iC, tI, fun s us _ hl => ?_⟩
  · obtain ⟨a, v, u, rfl, ha, k⟩ := h
    refine ws_ost (we_var 1 rfl (we_var 0 rfl ⟨a, C, rfl, T.oex, n1, .inl ⟨ha, fun dx hd ne => ?_⟩⟩))
    exact ws_ost (we_var 2 rfl (we_var 0 rfl ⟨a, C, rfl, T.oex, n2, .inr ⟨dx, _, upd_same, by rw [upd_ne ne, upd_same], by simp, ws_nil (k dx hd ne)⟩⟩))
  · rw [List.append_nil] at hl ⊢
    exact FunD.bindsA (ps := ["self", "line", "word"]) F (fun _ _ _ _ _ _ us hl => match us, hl with | [_, _, _], _ => rfl) s us hl
theorem sc_BadRow_init : FnScope ["self", "what", "row"] ["self", "what", "row"] (defScope s_BadRow_init) := ⟨rfl, rfl, rfl, by decide +kernel, rfl, by decide +kernel, by decide +kernel⟩
theorem ok_BadRow_init (F : FTM g C "__init__" "BadRow.__init__" s_BadRow_init) (T : XC g.K g.mg "BadRow" C) (n1 : PySem.W.findIn g.K (.ref C) "what" = some none) (n2 : PySem.W.findIn g.K (.ref C) "row" = some none) : XI g C ["self", "what", "row"] 1 (spInit2 C "what" "row") := by
  obtain ⟨f, fd, F, iC, tI⟩ := F
  refine ⟨f, fd, F.ok sc_BadRow_init (fun _ _ _ _ ⟨a, x, y, e, _⟩ => by rw [e] <;> rfl) (fun cdv A outer s H vs Q E hr h => ⟨_, WS.ps, ?_⟩), iC, tI, fun s us _ hl => ?_⟩
  · obtain ⟨a, v, u, rfl, ha, k⟩ := h
    refine ws_ost (we_var 1 rfl (we_var 0 rfl ⟨a, C, rfl, T.oex, n1, .inl ⟨ha, fun dx hd ne => ?_⟩⟩))
    exact ws_ost (we_var 2 rfl (we_var 0 rfl ⟨a, C, rfl, T.oex, n2, .inr ⟨dx, _, upd_same, by rw [upd_ne ne, upd_same], by simp, ws_nil (k dx hd ne)⟩⟩))
  · rw [List.append_nil] at hl ⊢
    exact FunD.bindsA (ps := ["self", "what", "row"]) F (fun _ _ _ _ _ _ us hl => match us, hl with | [_, _, _], _ => rfl) s us hl
/-! ### value_text -/
theorem sc_value_text : FnScope ["value"] ["value"] (defScope s_value_text) := ⟨rfl, rfl, rfl, by decide +kernel, rfl, by decide +kernel, by decide +kernel⟩
/-- the text of a plain value; a BadRow for another one -/
def spValueText (K : PySem.W.Frag) (CR : Addr) (n : Nat) : Sp := fun vs H Q E => ∃ v d, vs = [v] ∧ Dp K H v d ∧ d.depth < n ∧ lens d = true ∧
  if isPlain d 0 = true then (imm (asT d) = true ∧ (asT d).depth < n ∧ talks (asT d) = true ∧ lens (asT d) = true ∧ (textV (asT d)).length ≤ 1000000 ∧ ∀ H', Ex H H' → Q (.str (textV (asT d))) H') else ∀ dd H', Thrown H [("row", v), ("what", .str "value")] dd H' → E (.ref CR) (some dd) H'
theorem ok_value_text (T : Nm g.mg) {CR : Addr} (n : Nat) (F : FT g "value_text" s_value_text) (GP : FP g n) (GA : Fd g "as_tuples" ["value"] n (spF g.K 1 (fAsT n))) (GT : Fd g "text_of_value" ["value"] (n + 3) (spF g.K 1 (fText n))) (TR : XC g.K g.mg "BadRow" CR) (IR : XI g CR ["self", "what", "row"] 1 (spInit2 CR "what" "row")) : Fd g "value_text" ["value"] (n + 4) (spValueText g.K CR n) := by
  obtain ⟨f, fd, F, hm⟩ := F
  refine fd_of F hm sc_value_text (fun _ _ _ _ ⟨v, d, e, _⟩ => by rw [e] <;> rfl) (fun _ _ _ _ _ _ us hl => match us, hl with | [_], _ => rfl) (fun cdv A outer s H vs Q E hr h => ?_)
  obtain ⟨v, d, rfl, hv, hdep, hlen, h⟩ := h
  refine ws_if (vt_not (vt_val (vd_callD (ds2 := [.int 0]) (r := .bool (isPlain d 0)) GP.2 hr (va1 (vd_var 0 rfl hv)) (fun _ => .one (.int 0)) rfl (if_pos ⟨hdep, hlen⟩)))) (fun ht H1 e1 => ?_) (fun ht H1 e1 => ?_)
  · rw [if_neg (by simpa using ht)] at h
    refine ws_raise2 rfl TR IR (hr.mono (by omega)) takesE ((vd_str (s := "value")).use fun w H2 e2 dw => ?_)
    obtain rfl := dw.str_v
    exact we_var 0 rfl fun dd H3 _ hT => h dd H3 ⟨Evl.Ex.trans e1 (Evl.Ex.trans e2 hT.1), hT.2⟩
  · rw [if_pos (by simpa using ht)] at h
    obtain ⟨him, hd2, htk, hl2, hsz, k⟩ := h
    exact ws_nil (ws_retD (vd_call GT hr (va1 (vd_call (r := asT d) GA (hr.mono (by omega)) (va1 (vd_var 0 rfl (hv.up e1))) rfl (if_pos ⟨hdep, him, hlen⟩))) rfl (if_pos ⟨hd2, htk, hl2, hsz⟩)) fun w H2 e2 dw => by
      obtain rfl := dw.str_v
      exact k H2 (Evl.Ex.trans e1 e2))
end
end G

/-! # D5: run_of, tokens_of, is_numeral -/
namespace G
open PySem PySem.Spec PyProof.Rows L2
abbrev tl := TL.tl
def mkS (l : List Nat) : Str := ⟨l.toArray⟩
theorem tl_mkS (l : List Nat) : tl (mkS l) = l := rfl
theorem mkS_tl (x : Str) : mkS (tl x) = x := TL.mk_tl x
def isFig (c : Nat) : Bool := decide (48 ≤ c) && decide (c ≤ 57)
def isLet (c : Nat) : Bool := decide (97 ≤ c) && decide (c ≤ 122)
theorem mem_figures (c : Nat) : decide (c ∈ tl "0123456789") = isFig c := by
  have e : tl "0123456789" = [48, 49, 50, 51, 52, 53, 54, 55, 56, 57] := by decide +kernel
  rw [e]
  unfold isFig
  rw [Bool.eq_iff_iff]
  simp
  omega
theorem mem_letters (c : Nat) : decide (c ∈ tl "abcdefghijklmnopqrstuvwxyz") = isLet c := by
  have e : tl "abcdefghijklmnopqrstuvwxyz" = [97, 98, 99, 100, 101, 102, 103, 104, 105, 106, 107, 108, 109, 110, 111, 112, 113, 114, 115, 116, 117, 118, 119, 120, 121, 122] := by decide +kernel
  rw [e]
  unfold isLet
  rw [Bool.eq_iff_iff]
  simp
  omega
/-- how far signs of a kind stand side by side, from a place on -/
def runTo (cs S : List Nat) (i : Nat) : Nat := i + ((cs.drop i).takeWhile fun c => decide (c ∈ S)).length
theorem runTo_le (cs S : List Nat) (i : Nat) (h : i ≤ cs.length) : runTo cs S i ≤ cs.length := by
  unfold runTo
  have h1 := (List.takeWhile_prefix (l := cs.drop i) fun c => decide (c ∈ S)).length_le
  rw [List.length_drop] at h1
  omega
theorem runTo_in {cs S : List Nat} {i c : Nat} (h : cs[i]? = some c) (hc : c ∈ S) : runTo cs S i = runTo cs S (i + 1) := by
  obtain ⟨hi, e⟩ := List.getElem?_eq_some_iff.mp h
  unfold runTo
  rw [List.drop_eq_getElem_cons hi, e, List.takeWhile_cons, if_pos (by simpa using hc), List.length_cons]
  omega
theorem runTo_out {cs S : List Nat} {i : Nat} (h : ∀ c, cs[i]? = some c → c ∉ S) : runTo cs S i = i := by
  unfold runTo
  by_cases hi : i < cs.length
  · rw [List.drop_eq_getElem_cons hi, List.takeWhile_cons, if_neg (by simpa using h _ (List.getElem?_eq_getElem hi))]
    rfl
  · rw [List.drop_eq_nil_of_le (by omega)]
    rfl
/-- the int in a slot -/
def sI (σ : St) (i : Nat) : Int := match σ[i]? with
  | some (some (.int n)) => n
  | _ => 0
def fRun : List PyData → Option PyData
  | [.str z, .int i, .str s] => if 0 ≤ i ∧ i ≤ z.length ∧ z.length ≤ 1000000 then some (.int (runTo (tl z) (tl s) i.toNat)) else none
  | _ => none
theorem three_of {K : PySem.W.Frag} {H : Hp} {vs : List V} {ds : List PyData} (hl : vs.length = 3) (h : DpAll K H vs ds) : ∃ v u w d e f, vs = [v, u, w] ∧ ds = [d, e, f] ∧ Dp K H v d ∧ Dp K H u e ∧ Dp K H w f := by
  cases h with
  | nil => simp at hl
  | cons a b =>
    obtain ⟨v, u, d, e, rfl, rfl, c, c2⟩ := two_of (by simpa using hl) b
    exact ⟨_, _, _, _, _, _, rfl, rfl, a, c, c2⟩
theorem at_sign {z : Str} {i : Nat} (h : i < z.length) : ∃ c, (tl z)[i]? = some c ∧ atI z.cps.toList (i : Int) = some c := by
  have h' : i < (tl z).length := by rw [← TL.len_tl]; exact h
  exact ⟨_, List.getElem?_eq_getElem h', atI_nat (List.getElem?_eq_getElem h')⟩
section
variable {g : Gd}
theorem sc_run_of : FnScope ["text", "at", "some"] ["text", "at", "some"] (defScope s_run_of) := ⟨rfl, rfl, rfl, by decide +kernel, rfl, by decide +kernel, by decide +kernel⟩
theorem ok_run_of (T : Nm g.mg) (F : FT g "run_of" s_run_of) : Fd g "run_of" ["text", "at", "some"] 1 (spF g.K 3 fRun) := by
  obtain ⟨f, fd, F, hm⟩ := F
  refine fd_of F hm sc_run_of (fun _ _ _ _ h => h.1) (fun _ _ _ _ _ _ us hl => match us, hl with | [_, _, _], _ => rfl) (fun cdv A outer s H vs Q E hr h => ?_)
  obtain ⟨hl, ds, r, hd, hf, k⟩ := h
  obtain ⟨v, u, w, d, e, f', rfl, rfl, hv, hu, hw⟩ := three_of hl hd
  obtain ⟨z, i, S, rfl, rfl, rfl⟩ : ∃ z i S, d = .str z ∧ e = .int i ∧ f' = .str S := by
    match d, e, f', hf with
    | .str z, .int i, .str S, _ => exact ⟨z, i, S, rfl, rfl, rfl⟩
  obtain rfl := hv.str_v
  obtain rfl := hu.int_v
  obtain rfl := hw.str_v
  have hf' : (if 0 ≤ i ∧ i ≤ z.length ∧ z.length ≤ 1000000 then some (PyData.int (runTo (tl z) (tl S) i.toNat)) else none) = some r := hf
  by_cases hc : 0 ≤ i ∧ i ≤ z.length ∧ z.length ≤ 1000000
  · rw [if_pos hc] at hf'
    obtain rfl := Option.some.inj hf'
    obtain ⟨h0, h1, hz⟩ := hc
    have hz' : z.length ≤ sizeLine := Nat.le_trans hz (by decide)
    refine ws_while (fun σ H' => ∃ j : Nat, σ = [some (.str z), some (.int j), some (.str S)] ∧ Ex H H' ∧ j ≤ z.length ∧ runTo (tl z) (tl S) j = runTo (tl z) (tl S) i.toNat) (fun σ _ => ((z.length : Int) - sI σ 1).toNat) passO ⟨i.toNat, ?_, Evl.Ex.refl H, by omega, rfl⟩ ?_
    · have e : ((i.toNat : Nat) : Int) = i := by omega
      rw [e]
      rfl
    · rintro σ H1 ⟨j, rfl, e1, hj, hrun⟩
      by_cases hlt : j < z.length
      · obtain ⟨c, hc1, hc2⟩ := at_sign hlt
        refine (VW.vt (vw_and (vt_lt (vd_var 1 rfl (.int (j : Int))) (vd_lenS T.len (vd_var 0 rfl (.str z)) hz')) fun _ => vw_and1 (vt_inS (vd_ixS (vd_var 0 rfl (.str z)) (vd_var 1 rfl (.int (j : Int))) hz' hc2) (vd_var 2 rfl (.str S))))).use fun H2 e2 => ?_
        have hd1 : decide ((j : Int) < z.length) = true := decide_eq_true (by omega)
        rw [hd1, Bool.true_and]
        by_cases hin : c ∈ tl S
        · have hd2 : decide (c ∈ S.cps.toList) = true := decide_eq_true hin
          rw [hd2]
          refine iteT (ws_augI 1 sc_run_of.nd rfl vd_int fun H3 e3 => ws_nil ⟨⟨j + 1, by rfl, Evl.Ex.trans e1 (Evl.Ex.trans e2 e3), by omega, by rw [← runTo_in hc1 hin]; exact hrun⟩, ?_⟩)
          show ((z.length : Int) - ((j : Int) + 1)).toNat < ((z.length : Int) - (j : Int)).toNat
          omega
        · have hd2 : decide (c ∈ S.cps.toList) = false := decide_eq_false hin
          rw [hd2]
          refine iteF (ws_retD (vd_var 1 rfl (.int (j : Int))) fun w H3 e3 dw => k w H3 (Evl.Ex.trans e1 (Evl.Ex.trans e2 e3)) ?_)
          rw [← hrun, runTo_out (fun c' h' => by rw [hc1] at h'; rw [← Option.some.inj h']; exact hin)]
          exact dw
      · refine (VW.vt (vw_and (u := false) (vt_lt (vd_var 1 rfl (.int (j : Int))) (vd_lenS T.len (vd_var 0 rfl (.str z)) hz')) fun q => absurd (of_decide_eq_true q) (by omega))).use fun H2 e2 => ?_
        rw [Bool.and_false]
        refine iteF (ws_retD (vd_var 1 rfl (.int (j : Int))) fun w H3 e3 dw => k w H3 (Evl.Ex.trans e1 (Evl.Ex.trans e2 e3)) ?_)
        rw [← hrun, runTo_out (fun c' h' => by
          have y := (List.getElem?_eq_some_iff.mp h').1
          rw [← TL.len_tl] at y
          exact absurd y hlt)]
        exact dw
  · rw [if_neg hc] at hf'
    cases hf'
end
/-! ### the tokens of a text -/
theorem dropWhile_le (p : Nat → Bool) (cs : List Nat) : (cs.dropWhile p).length ≤ cs.length := (List.dropWhile_suffix p).length_le
def tokL : List Nat → List (List Nat)
  | [] => []
  | c :: cs => if c = 32 then tokL cs else if isFig c = true then (c :: cs.takeWhile isFig) :: tokL (cs.dropWhile isFig) else if isLet c = true then (c :: cs.takeWhile isLet) :: tokL (cs.dropWhile isLet) else [c] :: tokL cs
termination_by cs => cs.length
decreasing_by
  · simp
  · have := dropWhile_le isFig cs; simp only [List.length_cons]; omega
  · have := dropWhile_le isLet cs; simp only [List.length_cons]; omega
  · simp
def toks (z : Str) : List Str := (tokL (tl z)).map mkS
theorem tokL_nil : tokL [] = [] := by rw [tokL]
theorem tokL_cons (c : Nat) (cs : List Nat) : tokL (c :: cs) = if c = 32 then tokL cs else if isFig c = true then (c :: cs.takeWhile isFig) :: tokL (cs.dropWhile isFig) else if isLet c = true then (c :: cs.takeWhile isLet) :: tokL (cs.dropWhile isLet) else [c] :: tokL cs := by rw [tokL]
theorem take_run (p : Nat → Bool) (cs : List Nat) : cs.take (cs.takeWhile p).length = cs.takeWhile p := (List.prefix_iff_eq_take.mp (List.takeWhile_prefix p)).symm
theorem drop_run (p : Nat → Bool) : ∀ cs : List Nat, cs.drop (cs.takeWhile p).length = cs.dropWhile p
  | [] => rfl
  | c :: cs => by
    by_cases h : p c = true
    · rw [List.takeWhile_cons, if_pos h, List.dropWhile_cons, if_pos h, List.length_cons, List.drop_succ_cons, drop_run p cs]
    · rw [List.takeWhile_cons, if_neg h, List.dropWhile_cons, if_neg h]
      rfl
theorem tl_cut {z : Str} {i j : Nat} (hi : i ≤ j) (hj : j ≤ z.length) : cutS z (some (i : Int)) (some (j : Int)) = mkS (((tl z).drop i).take (j - i)) := by
  unfold cutS mkS
  rw [HT.sIx_nat, HT.sIx_nat, Nat.min_eq_left hj, Nat.min_eq_left (Nat.le_trans hi hj)]
/-- what a text's token costs ahead of place i: its end, and the token -/
theorem tok_step {cs : List Nat} {i c : Nat} (h : cs[i]? = some c) (hc : c ≠ 32) {S : List Nat} {p : Nat → Bool} (hS : ∀ c, decide (c ∈ S) = p c) (hp : p c = true) :
    runTo cs S i = i + (1 + ((cs.drop (i + 1)).takeWhile p).length) ∧ (cs.drop i).take (runTo cs S i - i) = c :: (cs.drop (i + 1)).takeWhile p ∧ cs.drop (runTo cs S i) = (cs.drop (i + 1)).dropWhile p := by
  obtain ⟨hi, e⟩ := List.getElem?_eq_some_iff.mp h
  have ef : (fun c => decide (c ∈ S)) = p := funext hS
  have ed : cs.drop i = c :: cs.drop (i + 1) := by rw [List.drop_eq_getElem_cons hi, e]
  have er : runTo cs S i = i + (1 + ((cs.drop (i + 1)).takeWhile p).length) := by
    unfold runTo
    rw [ef, ed, List.takeWhile_cons, if_pos hp, List.length_cons]
    omega
  refine ⟨er, ?_, ?_⟩
  · rw [er, ed]
    have e2 : i + (1 + ((cs.drop (i + 1)).takeWhile p).length) - i = ((cs.drop (i + 1)).takeWhile p).length + 1 := by omega
    rw [e2, List.take_succ_cons, take_run]
  · rw [er, ← drop_run, List.drop_drop]
    congr 1
    omega
theorem sign_eq {c : Nat} (h : (⟨#[c]⟩ : Str) = " ") : c = 32 := by
  have e : (" " : Str) = ⟨#[32]⟩ := by decide +kernel
  rw [e] at h
  simpa using h
theorem we_lst {X : Cx} {es : List Expr} {σ : St} {H : Hp} {Q : VK} {pos : Pos} (h : WA X es σ H fun vs H1 => vs.length ≤ sizeLine ∧ ∀ p, H1 p = none → Q (.ref p) (upd H1 p (.lst vs))) : WE X (.List es pos) σ H Q := .of (pe_lst WA.pa) h
theorem fresh_back {H H' : Hp} {p : Addr} (e : Ex H H') (h : H' p = none) : H p = none := Evl.fresh_back e h
section
variable {X : Cx} {c : Expr} {σ : St} {H : Hp} {pos : Pos} {st : Stmt} {rest body els : List Stmt} {D D' : Ends}
theorem W1.mono (h : W1 X st D σ H) (k : Le D D') : W1 X st D' σ H := fun pins s I => thn (h pins s I) fun f _ q => by
  cases f with
  | next => obtain ⟨a, b, c, d⟩ := q; exact ⟨a, b, c, k.nx _ _ d⟩
  | brk => obtain ⟨a, b, c, d⟩ := q; exact ⟨a, b, c, k.bk _ _ d⟩
  | cont => obtain ⟨a, b, c, d⟩ := q; exact ⟨a, b, c, k.ct _ _ d⟩
  | ret u => obtain ⟨v, a, b, c, r, d⟩ := q; exact ⟨v, a, b, c, r, k.rt _ _ d⟩
/-- what holds between two statements -/
theorem ws_cut (J : St → Hp → Prop) (h : W1 X st { D with nx := J } σ H) (k : ∀ σ' H', J σ' H' → WS X rest D σ' H') : WS X (st :: rest) D σ H := ws_cons (h.mono ⟨k, fun _ _ z => z, fun _ _ z => z, fun _ _ z => z⟩)
theorem w1_one (h : W1 X st D σ H) : WS X [st] D σ H := ws_one h
theorem w1_if {t : Bool} (h : VT X c σ H t) (h1 : t = true → ∀ H1, Ex H H1 → WS X body D σ H1) (h2 : t = false → ∀ H1, Ex H H1 → WS X els D σ H1) : W1 X (.If c body els pos) D σ H :=
  .of (ps_if WT.pt WS.ps WS.ps) (h.use fun H1 e1 => by
    cases t with
    | true => exact iteT (h1 rfl H1 e1)
    | false => exact iteF (h2 rfl H1 e1))
end
/-- the tokens, or a BadText of no place where the value is no string -/
def spTokens (K : PySem.W.Frag) (CT : Addr) : Sp := fun vs H Q E => ∃ v d, vs = [v] ∧ Dp K H v d ∧ (∀ z, d = .str z → z.length ≤ 90000 ∧ ∀ w H', Ex H H' → DpL K H' w (strD (toks z)) → Q w H') ∧
  ((∀ z, d ≠ .str z) → ∀ dd H', Thrown H [("word", .int 0), ("line", .int 0)] dd H' → E (.ref CT) (some dd) H')
section
variable {g : Gd}
theorem sc_tokens_of : FnScope ["text", "found", "at", "end"] ["text"] (defScope s_tokens_of) := ⟨rfl, rfl, rfl, by decide +kernel, rfl, by decide +kernel, by decide +kernel⟩
theorem ok_tokens_of (T : Nm g.mg) (F : FT g "tokens_of" s_tokens_of) (GR : Fd g "run_of" ["text", "at", "some"] 1 (spF g.K 3 fRun)) {CT : Addr} (TT : XC g.K g.mg "BadText" CT) (IT : XI g CT ["self", "line", "word"] 1 (spInit2 CT "line" "word")) : Fd g "tokens_of" ["text"] 3 (spTokens g.K CT) := by
  obtain ⟨f, fd, F, hm⟩ := F
  refine fd_of F hm sc_tokens_of (fun _ _ _ _ ⟨v, d, e, _⟩ => by rw [e] <;> rfl) (fun _ _ _ _ _ _ us hl => match us, hl with | [_], _ => rfl) (fun cdv A outer s H vs Q E hr h => ?_)
  obtain ⟨v, d, rfl, hv, hq, hne⟩ := h
  refine ws_if (vt_not (vt_val (vd_isi T.isinstance T.str bt_str (vd_var 0 rfl hv) (kit_str d)))) (fun ht H1 e1 => ?_) (fun ht H1 e1 => ?_)
  · refine ws_raise2 rfl TT IT hr takesE ((vd_int (i := 0)).use fun w H2 e2 dw => ?_)
    obtain rfl := dw.int_v
    refine (vd_int (i := 0)).use fun w H3 e3 dw => ?_
    obtain rfl := dw.int_v
    refine fun dd H4 _ hT => hne (fun z hz => ?_) dd H4 ⟨Evl.Ex.trans e1 (Evl.Ex.trans e2 (Evl.Ex.trans e3 hT.1)), hT.2⟩
    rw [hz] at ht
    exact Bool.noConfusion (show false = true from ht)
  · obtain ⟨z, rfl⟩ : ∃ z, d = .str z := by
      cases d with
      | str z => exact ⟨z, rfl⟩
      | _ => exact Bool.noConfusion (show true = false from ht)
    obtain ⟨hz, k⟩ := hq z rfl
    obtain rfl := hv.str_v
    have hz' : z.length ≤ sizeLine := Nat.le_trans hz (by decide)
    refine ws_nil (ws_par 1 2 rfl sc_tokens_of.nd (we_lst (wa_nil ⟨Nat.zero_le _, fun l hl => (vd_int (i := 0)).use fun w0 H3 e3 dw0 => ?_⟩)))
    obtain rfl := dw0.int_v
    have hl0 : H l = none := fresh_back e1 hl
    have e13 : Ex H H3 := Evl.Ex.trans e1 (Evl.Ex.trans (Evl.Ex.new hl) e3)
    refine ws_while (fun σ H' => ∃ (j : Nat) (ys : List Str) (o : Option V), σ = [some (.str z), some (.ref l), some (.int j), o] ∧ Ex H H' ∧ H' l = some (.lst (ys.map V.str)) ∧ j ≤ z.length ∧ toks z = ys ++ (tokL ((tl z).drop j)).map mkS ∧ ys.length ≤ j) (fun σ _ => ((z.length : Int) - sI σ 2).toNat) passO ⟨0, [], none, rfl, e13, e3 _ _ upd_same, Nat.zero_le _, rfl, Nat.le_refl _⟩ ?_
    rintro σ H4 ⟨j, ys, o, rfl, e4, hD, hj, ht, hy⟩
    refine (vt_lt (vd_var 2 rfl (.int (j : Int))) (vd_lenS T.len (vd_var 0 rfl (.str z)) hz')).use fun H5 e5 => ?_
    have hD5 := e5 _ _ hD
    have e45 := Evl.Ex.trans e4 e5
    by_cases hlt : j < z.length
    · rw [decide_eq_true (by omega : (j : Int) < z.length)]
      refine iteT ?_
      obtain ⟨c, hc1, hc2⟩ := at_sign hlt
      obtain ⟨hjl, ec⟩ := List.getElem?_eq_some_iff.mp hc1
      have ed : (tl z).drop j = c :: (tl z).drop (j + 1) := by rw [List.drop_eq_getElem_cons hjl, ec]
      refine ws_if (vt_eqS (vd_ixS (vd_var 0 rfl (.str z)) (vd_var 2 rfl (.int (j : Int))) hz' hc2) vd_str) (fun hs H6 e6 => ?_) (fun hs H6 e6 => ?_)
      · obtain rfl := sign_eq (by simpa using hs)
        refine ws_augI 2 sc_tokens_of.nd rfl vd_int fun H7 e7 => ws_nil (ws_nil ⟨⟨j + 1, ys, o, rfl, Evl.Ex.trans e45 (Evl.Ex.trans e6 e7), e7 _ _ (e6 _ _ hD5), by omega, ?_, by omega⟩, ?_⟩)
        · rw [ht, ed, tokL_cons, if_pos rfl]
        · show ((z.length : Int) - ((j : Int) + 1)).toNat < ((z.length : Int) - (j : Int)).toNat
          omega
      · have hc32 : c ≠ 32 := fun e => by subst e; simp at hs; exact hs rfl
        refine ws_setI 3 sc_tokens_of.nd (vd_add (vd_var 2 rfl (.int (j : Int))) vd_int) fun H7 e7 => ?_
        obtain ⟨tf, hf⟩ := T.figures
        obtain ⟨tk, hk⟩ := T.letters
        refine ws_cut (fun σ' H' => ∃ (e : Nat) (w : List Nat), σ' = [some (.str z), some (.ref l), some (.int j), some (.int e)] ∧ Ex H5 H' ∧ j < e ∧ e ≤ z.length ∧ ((tl z).drop j).take (e - j) = w ∧ tokL ((tl z).drop j) = w :: tokL ((tl z).drop e)) ?_ ?_
        · have run : ∀ {S : Str} {p : Nat → Bool}, (∀ c, decide (c ∈ tl S) = p c) → p c = true → (tokL (c :: (tl z).drop (j + 1)) = (c :: ((tl z).drop (j + 1)).takeWhile p) :: tokL (((tl z).drop (j + 1)).dropWhile p)) → ∃ w, j < runTo (tl z) (tl S) j ∧ runTo (tl z) (tl S) j ≤ z.length ∧ ((tl z).drop j).take (runTo (tl z) (tl S) j - j) = w ∧ tokL ((tl z).drop j) = w :: tokL ((tl z).drop (runTo (tl z) (tl S) j)) := fun {S p} hS hp he => by
            obtain ⟨q1, q2, q3⟩ := tok_step hc1 hc32 hS hp
            refine ⟨_, by omega, ?_, q2, ?_⟩
            · have y := runTo_le (tl z) (tl S) j (by rw [← TL.len_tl]; exact hj)
              rw [← TL.len_tl] at y
              exact y
            · rw [q3, ed, he]
          refine w1_if (vt_inS (vd_ixS (vd_var 0 rfl (.str z)) (vd_var 2 rfl (.int (j : Int))) hz' hc2) (vd_gstr hf)) (fun hb H8 e8 => ?_) (fun hb H8 e8 => w1_one (w1_if (vt_inS (vd_ixS (vd_var 0 rfl (.str z)) (vd_var 2 rfl (.int (j : Int))) hz' hc2) (vd_gstr hk)) (fun hb2 H9 e9 => ?_) (fun hb2 H9 e9 => ws_nil ?_)))
          · have hp : isFig c = true := by rw [← mem_figures]; exact hb
            obtain ⟨w, q1, q2, q3, q4⟩ := run (S := "0123456789") mem_figures hp (by rw [tokL_cons, if_neg hc32, if_pos hp])
            refine ws_setI 3 sc_tokens_of.nd (vd_call (n := 3) (r := .int (runTo (tl z) (tl "0123456789") j)) GR (hr.mono (by omega)) (va_cons (vd_var 0 rfl (.str z)) (va2 (vd_var 2 rfl (.int (j : Int))) (vd_gstr hf))) rfl (if_pos ⟨Int.natCast_nonneg _, by omega, by omega⟩)) fun H9 e9 => ws_nil ⟨_, w, rfl, Evl.Ex.trans e6 (Evl.Ex.trans e7 (Evl.Ex.trans e8 e9)), q1, q2, q3, q4⟩
          · have hp : isLet c = true := by rw [← mem_letters]; exact hb2
            have hnf : ¬ isFig c = true := by rw [← mem_figures]; exact fun h => by rw [show decide (c ∈ tl "0123456789") = false from hb] at h; cases h
            obtain ⟨w, q1, q2, q3, q4⟩ := run (S := "abcdefghijklmnopqrstuvwxyz") mem_letters hp (by rw [tokL_cons, if_neg hc32, if_neg hnf, if_pos hp])
            refine ws_setI 3 sc_tokens_of.nd (vd_call (n := 3) (r := .int (runTo (tl z) (tl "abcdefghijklmnopqrstuvwxyz") j)) GR (hr.mono (by omega)) (va_cons (vd_var 0 rfl (.str z)) (va2 (vd_var 2 rfl (.int (j : Int))) (vd_gstr hk))) rfl (if_pos ⟨Int.natCast_nonneg _, by omega, by omega⟩)) fun H10 e10 => ws_nil ⟨_, w, rfl, Evl.Ex.trans e6 (Evl.Ex.trans e7 (Evl.Ex.trans e8 (Evl.Ex.trans e9 e10))), q1, q2, q3, q4⟩
          · have hnf : ¬ isFig c = true := by rw [← mem_figures]; exact fun h => by rw [show decide (c ∈ tl "0123456789") = false from hb] at h; cases h
            have hnl : ¬ isLet c = true := by rw [← mem_letters]; exact fun h => by rw [show decide (c ∈ tl "abcdefghijklmnopqrstuvwxyz") = false from hb2] at h; cases h
            refine ⟨j + 1, [c], rfl, Evl.Ex.trans e6 (Evl.Ex.trans e7 (Evl.Ex.trans e8 e9)), by omega, by omega, ?_, ?_⟩
            · rw [ed, show j + 1 - j = 1 by omega]
              rfl
            · rw [ed, tokL_cons, if_neg hc32, if_neg hnf, if_neg hnl]
        · rintro σ' H8 ⟨e, w, rfl, e58, q1, q2, q3, q4⟩
          have hD8 := e58 _ _ hD5
          refine ws_expr (we_append (l := l) (xs := ys.map V.str) (we_var 1 rfl ⟨rfl, hD8, (vd_cutS (vd_var 0 rfl (.str z)) (vo_some (vd_var 2 rfl (.int (j : Int)))) (vo_some (vd_var 3 rfl (.int (e : Int)))) hz').use fun u H9 e9 du => ?_⟩))
          obtain rfl := du.str_v
          refine ⟨e9 _ _ hD8, by rw [List.length_map]; omega, ws_set 2 sc_tokens_of.nd (we_var 3 rfl (ws_nil (ws_nil ⟨⟨e, ys ++ [mkS w], _, rfl, Evl.Ex.mut (Evl.Ex.trans e45 (Evl.Ex.trans e58 e9)) hl0, ?_, q2, ?_, ?_⟩, ?_⟩)))⟩
          · rw [upd_same, tl_cut (by omega) q2, q3, List.map_append]
            rfl
          · rw [ht, q4, List.append_assoc]
            rfl
          · rw [List.length_append]
            simp only [List.length_cons, List.length_nil]
            omega
          · show ((z.length : Int) - (e : Int)).toNat < ((z.length : Int) - (j : Int)).toNat
            omega
    · rw [decide_eq_false (by omega : ¬ ((j : Int) < z.length))]
      refine iteF (ws_ret (we_var 1 rfl (k (.ref l) H5 e45 ⟨l, _, rfl, hD5, ?_⟩)))
      have e0 : (tl z).drop j = [] := List.drop_eq_nil_of_le (by rw [← TL.len_tl]; omega)
      rw [ht, e0, tokL_nil, List.map_nil, List.append_nil]
      exact .of_strD ys
end
end G

/-! # D6: a block over a text; is_numeral -/
namespace G
open PySem PySem.Spec PyProof.Rows L2
/-- a text's signs -/
def sgD (z : Str) : List PyData := (tl z).map fun c => .str ⟨#[c]⟩
theorem sgD_at {z : Str} {i c : Nat} (h : z.cps[i]? = some c) : (sgD z)[i]? = some (.str ⟨#[c]⟩) := by
  unfold sgD
  rw [List.getElem?_map, show (tl z)[i]? = some c from by rw [← h]; exact Array.getElem?_toList ..]
  rfl
theorem sgD_len (z : Str) : (sgD z).length = z.length := by
  unfold sgD
  rw [List.length_map, ← TL.len_tl]
theorem sgD_c {z : Str} {i : Nat} {d : PyData} (h : (sgD z)[i]? = some d) : ∃ c, (tl z)[i]? = some c ∧ d = .str ⟨#[c]⟩ := by
  unfold sgD at h
  rw [List.getElem?_map] at h
  cases e : (tl z)[i]? with
  | none => rw [e] at h; cases h
  | some c => rw [e] at h; exact ⟨c, rfl, (Option.some.inj h).symm⟩
section
variable {X : Cx} {e elt iter a b c : Expr} {σ : St} {H : Hp} {pos p : Pos} {x : Str} {scope : Scope} {ifs : List Expr}
theorem vl_lcS (N : List Str) (sc : Scope) (j : Nat) {fs : List PyData} {z : Str} (h : VD X a σ H (.str z)) (hl : fs.length = (sgD z).length) (im : immAll fs = true) (hz : fs.length ≤ 40000) (he : ∀ (i : Nat) d w f H1, (sgD z)[i]? = some d → fs[i]? = some f → Ex H H1 → Dp X.K H1 w d → ∀ s H0 C cl fp, VD (Blk X s H0 scope C cl fp) elt ((wipe σ [j]).set j (some w)) H1 f) (hc : X.calm = true) (hN : X.N.Nodup) (hj : X.N[j]? = some x := by rfl) (hx : ∀ C cl, Loc (compEnvC scope cl C X.env).scope x := by first | exact fun _ _ => Or.inl rfl | exact fun _ _ => Or.inr rfl) (hfx : ∀ s H0 C cl fp, (Blk X s H0 scope C cl fp).fn x = true ∨ (compEnvC scope cl C X.env).scope.names.lookup x = some .local := by first | exact fun _ _ _ _ _ => .inl rfl | exact fun _ _ _ _ _ => .inr rfl) (hNN : X.N = N := by rfl) (hsc : X.env.scope = sc := by rfl) (hb : blkC N sc scope [(x, j)] = true := by decide +kernel) (hw : ∀ v, wipe ((wipe σ [j]).set j (some v)) [j] = wipe σ [j] := by intro _; rfl) (hs : ∀ y, foldedSetIterable a X.env y = pure y := by intro _; rfl) :
    VL X (.ListComp elt [⟨.Name x p, a, [], 0⟩] scope pos) σ H fs := by
  intro H0 e0
  have ok : BlkOk X.N X.env.scope scope [(x, j)] := blkOk_by (by rw [hNN, hsc]; exact hb)
  refine .of (pe_lc (own := [(x, j)]) (g := gName j) (te := fun σ H Q => ∀ s H0 C cl fp, WE (Blk X s H0 scope C cl fp) elt σ H Q) hc hN (pi_str WE.pe) ok (fun s H1 C cl fp => pg_name hN hj (hx C cl) (hfx s H1 C cl fp)) (fun s H1 C cl fp => pts_nil) (fun s H1 C cl fp => ⟨fun pins s' σ H Q I z => z _ _ _ _ _ pins s' I⟩) hs) ?_
  refine (h H0 e0).mono fun v H1 ⟨e1, dv⟩ => ?_
  obtain rfl := dv.str_v
  refine ⟨z, rfl, fun D hD => lc_it (walk_str (z := z)) (g := gName j) (tt := tYes) (te := fun σ H Q => ∀ s H0 C cl fp, WE (Blk X s H0 scope C cl fp) elt σ H Q) (vs := [j]) (σ := σ) (Qd := fun H2 => Ex H0 H2 ∧ DpL X.K H2 (.ref D) fs) (Lw X.K H1 D (List.replicate fs.length true) fs) ⟨hD, Evl.Ex.new hD, [], upd_same, .nil⟩ (fun _ _ _ _ => trivial) (fun i w H' H'' hi p y => ?_) (fun H' p => ?_)⟩
  · obtain ⟨rfl, c', hc', rfl⟩ := y
    have hd : (sgD z)[i]? = some (.str ⟨#[c']⟩) := sgD_at hc'
    have dw : Dp X.K H'' (.str ⟨#[c']⟩) (.str ⟨#[c']⟩) := .str _
    obtain ⟨f, hf⟩ : ∃ f, fs[i]? = some f := ⟨_, List.getElem?_eq_getElem (by have := (List.getElem?_eq_some_iff.mp hd).1; omega)⟩
    refine ⟨hw _, lw_turn (b := true) (f := f) (t := tYes) (te := fun σ H Q => ∀ s H0 C cl fp, WE (Blk X s H0 scope C cl fp) elt σ H Q) (by omega) (by simp) im p (by rw [List.getElem?_replicate, if_pos (List.getElem?_eq_some_iff.mp hf).1]) hf (fun Q k => ?_) (fun hb2 H2 e2 Q k s2 H3 C cl fp => ?_)⟩
    · exact k H'' (Evl.Ex.refl H'')
    · exact (he i _ _ f H2 hd hf (Evl.Ex.trans (Evl.Ex.trans (Evl.Ex.trans e0 e1) p.2.1) e2) (dw.up e2) s2 H3 C cl fp).use fun w2 H4 e4 dw2 => k w2 H4 e4 dw2
  · obtain ⟨n0, e2, vs, hD2, hv⟩ := p
    have el : z.cps.size = fs.length := by rw [hl, sgD_len]; rfl
    rw [el, List.take_of_length_le (Nat.le_of_eq (by simp)), List.take_of_length_le (Nat.le_refl _), sel_true] at hv
    exact ⟨Evl.Ex.trans e1 e2, D, vs, rfl, hD2, hv⟩
theorem vl_lcIfS (N : List Str) (sc : Scope) (j : Nat) {fs : List PyData} {z : Str} (h : VD X a σ H (.str z)) (hl : fs.length = (sgD z).length) (im : immAll fs = true) (hz : fs.length ≤ 40000) (bs : List Bool) (hbl : bs.length = fs.length) (ht : ∀ (i : Nat) d w f H1, (sgD z)[i]? = some d → fs[i]? = some f → Ex H H1 → Dp X.K H1 w d → ∀ t, bs[i]? = some t → ∀ s H0 C cl fp, VT (Blk X s H0 scope C cl fp) c ((wipe σ [j]).set j (some w)) H1 t) (he : ∀ (i : Nat) d w f H1, (sgD z)[i]? = some d → fs[i]? = some f → Ex H H1 → Dp X.K H1 w d → bs[i]? = some true → ∀ s H0 C cl fp, VD (Blk X s H0 scope C cl fp) elt ((wipe σ [j]).set j (some w)) H1 f) (hc : X.calm = true) (hN : X.N.Nodup) (hj : X.N[j]? = some x := by rfl) (hx : ∀ C cl, Loc (compEnvC scope cl C X.env).scope x := by first | exact fun _ _ => Or.inl rfl | exact fun _ _ => Or.inr rfl) (hfx : ∀ s H0 C cl fp, (Blk X s H0 scope C cl fp).fn x = true ∨ (compEnvC scope cl C X.env).scope.names.lookup x = some .local := by first | exact fun _ _ _ _ _ => .inl rfl | exact fun _ _ _ _ _ => .inr rfl) (hNN : X.N = N := by rfl) (hsc : X.env.scope = sc := by rfl) (hb : blkC N sc scope [(x, j)] = true := by decide +kernel) (hw : ∀ v, wipe ((wipe σ [j]).set j (some v)) [j] = wipe σ [j] := by intro _; rfl) (hs : ∀ y, foldedSetIterable a X.env y = pure y := by intro _; rfl) :
    VL X (.ListComp elt [⟨.Name x p, a, [c], 0⟩] scope pos) σ H (sel bs fs) := by
  intro H0 e0
  have ok : BlkOk X.N X.env.scope scope [(x, j)] := blkOk_by (by rw [hNN, hsc]; exact hb)
  refine .of (pe_lc (own := [(x, j)]) (g := gName j) (te := fun σ H Q => ∀ s H0 C cl fp, WE (Blk X s H0 scope C cl fp) elt σ H Q) hc hN (pi_str WE.pe) ok (fun s H1 C cl fp => pg_name hN hj (hx C cl) (hfx s H1 C cl fp)) (fun s H1 C cl fp => pts_one (t := fun σ H Q => ∀ s H0 C cl fp, WT (Blk X s H0 scope C cl fp) c σ H Q) ⟨fun pins s σ H Q I z => z _ _ _ _ _ pins s I⟩) (fun s H1 C cl fp => ⟨fun pins s' σ H Q I z => z _ _ _ _ _ pins s' I⟩) hs) ?_
  refine (h H0 e0).mono fun v H1 ⟨e1, dv⟩ => ?_
  obtain rfl := dv.str_v
  refine ⟨z, rfl, fun D hD => lc_it (walk_str (z := z)) (g := gName j) (tt := (fun σ H Q => ∀ s H0 C cl fp, WT (Blk X s H0 scope C cl fp) c σ H Q)) (te := fun σ H Q => ∀ s H0 C cl fp, WE (Blk X s H0 scope C cl fp) elt σ H Q) (vs := [j]) (σ := σ) (Qd := fun H2 => Ex H0 H2 ∧ DpL X.K H2 (.ref D) (sel bs fs)) (Lw X.K H1 D bs fs) ⟨hD, Evl.Ex.new hD, [], upd_same, .nil⟩ (fun _ _ _ _ => trivial) (fun i w H' H'' hi p y => ?_) (fun H' p => ?_)⟩
  · obtain ⟨rfl, c', hc', rfl⟩ := y
    have hd : (sgD z)[i]? = some (.str ⟨#[c']⟩) := sgD_at hc'
    have dw : Dp X.K H'' (.str ⟨#[c']⟩) (.str ⟨#[c']⟩) := .str _
    obtain ⟨f, hf⟩ : ∃ f, fs[i]? = some f := ⟨_, List.getElem?_eq_getElem (by have := (List.getElem?_eq_some_iff.mp hd).1; omega)⟩
    obtain ⟨t, hbt⟩ : ∃ t, bs[i]? = some t := ⟨_, List.getElem?_eq_getElem (by have := (List.getElem?_eq_some_iff.mp hf).1; omega)⟩
    refine ⟨hw _, lw_turn (b := t) (f := f) (t := (fun σ H Q => ∀ s H0 C cl fp, WT (Blk X s H0 scope C cl fp) c σ H Q)) (te := fun σ H Q => ∀ s H0 C cl fp, WE (Blk X s H0 scope C cl fp) elt σ H Q) (by omega) hbl im p hbt hf (fun Q k => ?_) (fun hb2 H2 e2 Q k s2 H3 C cl fp => ?_)⟩
    · intro s2 H3 C cl fp
      exact (ht i _ _ f H'' hd hf (Evl.Ex.trans (Evl.Ex.trans e0 e1) p.2.1) dw t hbt s2 H3 C cl fp).use fun H2 e2 => k H2 e2
    · exact (he i _ _ f H2 hd hf (Evl.Ex.trans (Evl.Ex.trans (Evl.Ex.trans e0 e1) p.2.1) e2) (dw.up e2) (by rw [hbt, hb2]) s2 H3 C cl fp).use fun w2 H4 e4 dw2 => k w2 H4 e4 dw2
  · obtain ⟨n0, e2, vs, hD2, hv⟩ := p
    have el : z.cps.size = fs.length := by rw [hl, sgD_len]; rfl
    rw [el, List.take_of_length_le (Nat.le_of_eq hbl), List.take_of_length_le (Nat.le_refl _)] at hv
    exact ⟨Evl.Ex.trans e1 e2, D, vs, rfl, hD2, hv⟩
end
/-! ### is_numeral -/
def numL (most : Nat) (cs : List Nat) : Bool := !cs.isEmpty && decide (cs.length ≤ most) && cs.all isFig && (decide (cs = [48]) || !decide (cs.head? = some 48))
def fIsNum : List PyData → Option PyData
  | [.str z, .int m] => if 0 ≤ m ∧ z.length ≤ 40000 then some (.bool (numL m.toNat (tl z))) else none
  | _ => none
theorem numL_nil (most : Nat) : numL most [] = false := rfl
theorem str_nil {z : Str} : z = "" ↔ tl z = [] := by
  constructor
  · rintro rfl; decide +kernel
  · intro h
    rw [← mkS_tl z, h]
    decide +kernel
theorem str_zero {z : Str} : z = "0" ↔ tl z = [48] := by
  constructor
  · rintro rfl; decide +kernel
  · intro h
    rw [← mkS_tl z, h]
    decide +kernel
theorem sign_zero {c : Nat} : (⟨#[c]⟩ : Str) = "0" ↔ c = 48 := by
  have e : ("0" : Str) = ⟨#[48]⟩ := by decide +kernel
  rw [e]
  simp
section
variable {g : Gd}
theorem sc_is_numeral : FnScope ["token", "most", "sign"] ["token", "most"] (defScope s_is_numeral) := ⟨rfl, rfl, rfl, by decide +kernel, rfl, by decide +kernel, by decide +kernel⟩
theorem ok_is_numeral (T : Nm g.mg) (F : FT g "is_numeral" s_is_numeral) : Fd g "is_numeral" ["token", "most"] 1 (spF g.K 2 fIsNum) := by
  obtain ⟨f, fd, F, hm⟩ := F
  refine fd_of F hm sc_is_numeral (fun _ _ _ _ h => h.1) (fun _ _ _ _ _ _ us hl => match us, hl with | [_, _], _ => rfl) (fun cdv A outer s H vs Q E hr h => ?_)
  obtain ⟨hl, ds, r, hd, hf, k⟩ := h
  obtain ⟨v, u, d, e, rfl, rfl, hv, hu⟩ := two_of hl hd
  obtain ⟨z, i, rfl, rfl⟩ : ∃ z i, d = .str z ∧ e = .int i := by
    match d, e, hf with
    | .str z, .int i, _ => exact ⟨z, i, rfl, rfl⟩
  obtain rfl := hv.str_v
  obtain rfl := hu.int_v
  have hf' : (if 0 ≤ i ∧ z.length ≤ 40000 then some (PyData.bool (numL i.toNat (tl z))) else none) = some r := hf
  by_cases hc : 0 ≤ i ∧ z.length ≤ 40000
  · rw [if_pos hc] at hf'
    obtain rfl := Option.some.inj hf'
    obtain ⟨h0, hz⟩ := hc
    have hz' : z.length ≤ sizeLine := Nat.le_trans hz (by decide)
    obtain ⟨tf, hfig⟩ := T.figures
    have hlen : (tl z).length = z.length := (TL.len_tl z).symm
    have e0 : decide (z = "") = (tl z).isEmpty := by rw [Bool.eq_iff_iff, decide_eq_true_iff, str_nil, List.isEmpty_iff]
    refine ws_if (VW.vt (vw_or (vt_eqS (vd_var 0 rfl (.str z)) vd_str) fun _ => vw_or (vt_gt (vd_lenS T.len (vd_var 0 rfl (.str z)) hz') (vd_var 1 rfl (.int i))) fun _ => vw_or1 (vt_not (vt_val (vd_all (bs := (tl z).map isFig) T.all rfl ((vl_lcS ["token", "most", "sign"] (defScope s_is_numeral) 2 (z := z) (fs := blD ((tl z).map isFig)) (vd_var 0 rfl (.str z)) (by rw [sgD_len, blD, List.length_map, List.length_map, hlen]) (immAll_blD _) (by rw [blD, List.length_map, List.length_map, hlen]; exact hz) (fun i' d w f H1 hd hf e1 dw s2 H2 C cl fp => ?_) rfl sc_is_numeral.nd).vd)))))) (fun ht H1 e1 => ?_) (fun ht H1 e1 => ?_)
    · obtain ⟨c, hc1, rfl⟩ := sgD_c hd
      have ef : f = .bool (decide (c ∈ tl "0123456789")) := by
        unfold blD at hf
        rw [List.map_map, List.getElem?_map, hc1] at hf
        rw [mem_figures]
        exact (Option.some.inj hf).symm
      rw [ef]
      exact vd_inS (vd_var 2 rfl dw) (vd_gstr hfig)
    · refine ws_retD vd_bl fun w H2 e2 dw => k w H2 (Evl.Ex.trans e1 e2) ?_
      have en : numL i.toNat (tl z) = false := by
        rw [e0] at ht
        unfold numL
        cases h1 : (tl z).isEmpty with
        | true => rfl
        | false =>
          rw [h1] at ht
          by_cases h2 : (tl z).length ≤ i.toNat
          · have h3 : decide (i < (z.length : Int)) = false := decide_eq_false (by omega)
            rw [h3] at ht
            have h4 : ((tl z).all isFig) = false := by simpa [List.all_map] using ht
            rw [h4]
            simp
          · rw [decide_eq_false h2]
            simp
      rw [en]
      exact dw
    · rw [e0] at ht
      simp only [Bool.or_eq_false_iff, Bool.not_eq_false', List.all_map] at ht
      obtain ⟨h1, h2, h3⟩ := ht
      have h2' : (tl z).length ≤ i.toNat := by have := of_decide_eq_false h2; omega
      have en : numL i.toNat (tl z) = (decide (tl z = [48]) || !decide ((tl z).head? = some 48)) := by
        unfold numL
        rw [h1, decide_eq_true h2', show (tl z).all isFig = true from h3]
        rfl
      obtain ⟨c, cs, hcs⟩ : ∃ c cs, tl z = c :: cs := by
        cases h : tl z with
        | nil => rw [h] at h1; cases h1
        | cons c cs => exact ⟨c, cs, rfl⟩
      refine ws_nil (ws_retD (vd_or (vd_eqS (vd_var 0 rfl (.str z)) vd_str) fun _ => vd_one (vd_neS (vd_ixS (n := c) (vd_var 0 rfl (.str z)) vd_int hz' ?_) vd_str)) fun w H2 e2 dw => k w H2 (Evl.Ex.trans e1 e2) ?_)
      · exact atI_nat (j := 0) (show (tl z)[0]? = some c by rw [hcs]; rfl)
      · rw [en]
        have e1 : decide (z = "0") = decide (tl z = [48]) := by rw [decide_eq_decide]; exact str_zero
        have e2 : decide ((⟨#[c]⟩ : Str) = "0") = decide ((tl z).head? = some 48) := by rw [decide_eq_decide, hcs]; simpa using sign_zero
        rw [← e1, ← e2]
        exact dw
  · rw [if_neg hc] at hf'
    cases hf'
end
end G

/-! # D7: the Reader -/
namespace G
open PySem PySem.Spec PyProof.Rows L2
/-! ### changes to one object -/
def ExB (r : Addr) (H H' : Hp) : Prop := ∀ a o, a ≠ r → H a = some o → H' a = some o
theorem ExB.of {r : Addr} {H H' : Hp} (e : Ex H H') : ExB r H H' := fun a o _ h => e a o h
theorem ExB.refl (r : Addr) (H : Hp) : ExB r H H := fun _ _ _ h => h
theorem ExB.trans {r : Addr} {H H1 H2 : Hp} (a : ExB r H H1) (b : ExB r H1 H2) : ExB r H H2 := fun x o n h => b x o n (a x o n h)
theorem ExB.upd {r : Addr} {H : Hp} {o : HO} : ExB r H (upd H r o) := fun a u n h => by rw [upd_ne n]; exact h
theorem ExB.toI {r C dx : Addr} {fs : List (Str × V)} {H H' : Hp} (e : ExB r H H') (h : H r = some (.ins C dx fs)) : ExI H H' := fun a o ha _ _ n _ => e a o (fun q => by rw [q, h] at ha; exact n C dx fs (Option.some.inj ha).symm) ha
theorem ExB.lst {r C dx l : Addr} {fs : List (Str × V)} {xs : List V} {H H' : Hp} (e : ExB r H H') (h : H r = some (.ins C dx fs)) (hl : H l = some (.lst xs)) : H' l = some (.lst xs) := e l _ (fun q => by rw [q, h] at hl; cases hl) hl
theorem ExB.ex {r : Addr} {H0 H H' : Hp} (e : ExB r H H') (h : H0 r = none) (k : Ex H0 H) : Ex H0 H' := fun a o ha => e a o (fun q => by rw [q, h] at ha; cases ha) (k a o ha)
/-! ### the reader's fields -/
def rf (l : Addr) (ln : Int) (i d : Int) : List (Str × V) := [("tokens", .ref l), ("line", .int ln), ("most", .int 400), ("at", .int i), ("deep", .int d)]
section
variable (l : Addr) (ln i d y : Int)
theorem rf_tokens : (rf l ln i d).lookup ("tokens" : Str) = some (.ref l) := rfl
theorem rf_line : (rf l ln i d).lookup ("line" : Str) = some (.int ln) := rfl
theorem rf_most : (rf l ln i d).lookup ("most" : Str) = some (.int 400) := rfl
theorem rf_at : (rf l ln i d).lookup ("at" : Str) = some (.int i) := rfl
theorem rf_deep : (rf l ln i d).lookup ("deep" : Str) = some (.int d) := rfl
theorem rf_putAt : putF "at" (.int y) (rf l ln i d) = rf l ln y d := rfl
theorem rf_putDeep : putF "deep" (.int y) (rf l ln i d) = rf l ln i y := rfl
end
/-- a reader: its object, its list, what it reads, the line -/
structure RS where
  r : Addr
  dx : Addr
  l : Addr
  ts : List Str
  ln : Int
structure RC (K : PySem.W.Frag) (mg : Str → Option Value) (C : Addr) : Prop where
  cl : Cls K C
  n1 : NoAttr K C "tokens"
  n2 : NoAttr K C "line"
  n3 : NoAttr K C "most"
  n4 : NoAttr K C "at"
  n5 : NoAttr K C "deep"
structure RIn (C : Addr) (S : RS) (i : Nat) (d : Int) (H : Hp) : Prop where
  ob : H S.r = some (.ins C S.dx (rf S.l S.ln i d))
  li : H S.l = some (.lst (S.ts.map V.str))
  few : S.ts.length ≤ 40000
  sh : ∀ t, t ∈ S.ts → t.length ≤ 40000
theorem RIn.up {C : Addr} {S : RS} {i : Nat} {d : Int} {H H' : Hp} (h : RIn C S i d H) (e : Ex H H') : RIn C S i d H' := ⟨e _ _ h.ob, e _ _ h.li, h.few, h.sh⟩
theorem RIn.ne {C : Addr} {S : RS} {i : Nat} {d : Int} {H : Hp} (h : RIn C S i d H) : S.l ≠ S.r := fun e => by
  have a := h.li
  rw [e, h.ob] at a
  cases a
theorem RIn.putAt {C : Addr} {S : RS} {i : Nat} {d : Int} {H : Hp} (h : RIn C S i d H) (j : Nat) : RIn C S j d (upd H S.r (.ins C S.dx (rf S.l S.ln j d))) := ⟨upd_same, by rw [upd_ne h.ne]; exact h.li, h.few, h.sh⟩
theorem RIn.putDeep {C : Addr} {S : RS} {i : Nat} {d : Int} {H : Hp} (h : RIn C S i d H) (j : Int) : RIn C S i j (upd H S.r (.ins C S.dx (rf S.l S.ln i j))) := ⟨upd_same, by rw [upd_ne h.ne]; exact h.li, h.few, h.sh⟩
/-- from there on: the reader at another place, all else kept -/
structure RTo (C : Addr) (S : RS) (i : Nat) (d : Int) (H H' : Hp) : Prop where
  at_ : RIn C S i d H'
  kp : ExB S.r H H'
theorem RTo.trans {C : Addr} {S : RS} {i j : Nat} {d e : Int} {H H1 H2 : Hp} (a : RTo C S i d H H1) (b : RTo C S j e H1 H2) : RTo C S j e H H2 := ⟨b.at_, a.kp.trans b.kp⟩
theorem RTo.ex {C : Addr} {S : RS} {i : Nat} {d : Int} {H H1 H2 : Hp} (a : RTo C S i d H H1) (b : Ex H1 H2) : RTo C S i d H H2 := ⟨a.at_.up b, a.kp.trans (.of b)⟩
theorem RTo.pre {C : Addr} {S : RS} {i : Nat} {d : Int} {H H1 H2 : Hp} (a : Ex H H1) (b : RTo C S i d H1 H2) : RTo C S i d H H2 := ⟨b.at_, ExB.trans (.of a) b.kp⟩
/-- a text at a place that is at fault -/
def Wrong (S : RS) (p : Nat) (dd : Addr) (H H' : Hp) : Prop := ExB S.r H H' ∧ H' dd = some (.xd [("word", .int ((p : Int) + 1)), ("line", .int S.ln)])
theorem Wrong.pre {S : RS} {p : Nat} {dd : Addr} {H H1 H2 : Hp} (a : ExB S.r H H1) (b : Wrong S p dd H1 H2) : Wrong S p dd H H2 := ⟨a.trans b.1, b.2⟩
/-- the token at a place, or nothing -/
def tok (ts : List Str) (i : Nat) : Str := (ts[i]?).getD ""
section
variable {X : Cx} {C : Addr} {S : RS} {i : Nat} {d : Int} {σ : St} {H : Hp} {p pos : Pos} {x : Str}
theorem vd_fld1 (j : Nat) {f : Str} {r dx : Addr} {fs : List (Str × V)} {w : V} {dd : PyData} (h : σ[j]? = some (some (.ref r))) (ho : H r = some (.ins C dx fs)) (c : Cls X.K C) (n : NoAttr X.K C f) (hl : fs.lookup f = some w) (hd : Dp X.K H w dd) (hN : X.N[j]? = some x := by rfl) (hv : Vis X.env.scope x := by first | exact Or.inl rfl | exact Or.inr (Or.inl rfl) | exact Or.inr (Or.inr rfl))
    (h1 : (x == ("__debug__" : Str)) = false := by decide) (h2 : (x == ("__classdict__" : Str)) = false := by decide) (hb : attributeBase (.Name x p) f X.env (eval (.Name x p) X.env) = eval (.Name x p) X.env := by rfl) : VD X (.Attribute (.Name x p) f pos) σ H dd := fun H1 e1 =>
  we_fld (we_var j h ⟨r, C, dx, fs, w, rfl, e1 _ _ ho, c, n, hl, Evl.Ex.refl H1, hd.up e1⟩ hN hv h1 h2) hb
theorem RIn.toks {K : PySem.W.Frag} (h : RIn C S i d H) : Dp K H (.ref S.l) (.list (strD S.ts)) := DpL.dp ⟨S.l, _, rfl, h.li, .of_strD _⟩
theorem strD_at {ts : List Str} {i : Nat} {t : Str} (h : ts[i]? = some t) : atI (strD ts) (i : Int) = some (.str t) := atI_nat (by unfold strD; rw [List.getElem?_map, h]; rfl)
theorem tok_mem {ts : List Str} {i : Nat} {t : Str} (h : ts[i]? = some t) : t ∈ ts := List.mem_of_getElem? h
theorem tok_len {ts : List Str} {i n : Nat} (h : ∀ t, t ∈ ts → t.length ≤ n) : (tok ts i).length ≤ n := by
  unfold tok
  cases e : ts[i]? with
  | none => exact Nat.zero_le _
  | some t => exact h t (tok_mem e)
end
section
variable {X : Cx} {e : Expr} {σ : St} {H : Hp} {pos : Pos} {Q : Bool → Hp → Prop}
/-- a test by a call that changes things -/
theorem wt_val (h : WE X e σ H fun v H1 => ∃ t, v = .bl t ∧ Q t H1) (he : ∀ whole, isTrue e X.env whole = (do let v ← whole; standAt e.pos; holding [v] (truthy v)) := by intro _; rfl) : WT X e σ H Q := .of (pt_val WE.pe he) h
theorem wt_not (h : WT X e σ H fun c H1 => Q (!c) H1) : WT X (.UnaryOp .Not e pos) σ H Q := .of (pt_not WT.pt) h
end
/-! ### the methods -/
/-- raise at this place -/
def spWrong (C CT : Addr) : Sp := fun vs H _ E => ∃ S i d, vs = [.ref S.r] ∧ RIn C S i d H ∧ ∀ dd H', Wrong S i dd H H' → E (.ref CT) (some dd) H'
def spPeek (C : Addr) : Sp := fun vs H Q _ => ∃ S i d, vs = [.ref S.r] ∧ RIn C S i d H ∧ ∀ H', Ex H H' → Q (.str (tok S.ts i)) H'
def spNext (C : Addr) : Sp := fun vs H Q _ => ∃ S i d t, vs = [.ref S.r, .str t] ∧ RIn C S i d H ∧ ∀ H', RTo C S (if S.ts[i]? = some t then i + 1 else i) d H H' → Q (.bl (decide (S.ts[i]? = some t))) H'
def spNeed (C CT : Addr) : Sp := fun vs H Q E => ∃ S i d t, vs = [.ref S.r, .str t] ∧ RIn C S i d H ∧ (S.ts[i]? = some t → ∀ H', RTo C S (i + 1) d H H' → Q .non H') ∧ (S.ts[i]? ≠ some t → ∀ dd H', Wrong S i dd H H' → E (.ref CT) (some dd) H')
def spEnd (C CT : Addr) : Sp := fun vs H Q E => ∃ S i d, vs = [.ref S.r] ∧ RIn C S i d H ∧ (S.ts.length ≤ i → ∀ H', RTo C S i d H H' → Q .non H') ∧ (i < S.ts.length → ∀ dd H', Wrong S i dd H H' → E (.ref CT) (some dd) H')
/-- the number that figures tell -/
def numOf (z : Str) : Int := (PySem.intText? z).getD 0
def pNum (ts : List Str) (i : Nat) : Except Nat (Int × Nat) := if numL 400 (tl (tok ts i)) = true then .ok (numOf (tok ts i), i + 1) else .error i
def spNumeral (C CT : Addr) : Sp := fun vs H Q E => ∃ S i d, vs = [.ref S.r] ∧ RIn C S i d H ∧ match pNum S.ts i with
  | .ok (n, j) => ∀ H', RTo C S j d H H' → Q (.int n) H'
  | .error j => ∀ dd H', Wrong S j dd H H' → E (.ref CT) (some dd) H'
def MT (g : Gd) (C : Addr) (m qual : Str) (st : Stmt) : Prop := ∃ f fd, FunD g.K m qual (defArgs st) (defBody st) (defScope st) [] [] f fd ∧ Meth g.K C m f
/-- one method: its promise by its body -/
theorem md_of {g : Gd} {C : Addr} {m qual : Str} {st : Stmt} {N ps : List Str} {k : Nat} {sp : Sp} (F : MT g C m qual st) (S : FnScope N ps (defScope st)) (len : ∀ vs H Q E, sp vs H Q E → vs.length = ps.length)
    (hb : ∀ (kV doc pm : Value) (an : Option Addr) (cdv ct : Value) (us : List Value), us.length = ps.length → bindArgs (PySem.W.fnOf m qual (defArgs st) (defBody st) (defScope st) .none kV doc pm an cdv ct) ⟨us, []⟩ = pure (ps.zip us))
    (body : ∀ (f : Addr) (cdv : Value) (A : Around) (outer : List Env) (s : Shared) (H : Hp) (vs : List V) (Q : VK) (E : XK), Room k (A.deeper (envOfC qual (defScope st) s.heap.objs.size f cdv)) → sp vs H Q E →
      WS (cxOf (CXg g) g.P g.w g.K g.mg g.base N qual (defScope st) f cdv A outer s H E) (defBody st) { nx := fun _ H' => Q .non H', rt := Q } (L2.start N vs) H) : Md g C m ps (k + 1) sp := by
  obtain ⟨f, fd, F, hm⟩ := F
  refine ⟨f, fd, F.ok S len fun cdv A outer s H vs Q E hr h => ⟨_, WS.ps, body f cdv A outer s H vs Q E hr h⟩, hm, fun s us _ hl => ?_⟩
  rw [List.append_nil] at hl ⊢
  exact FunD.bindsA (ps := ps) F hb s us hl
section
variable {g : Gd} {C CT : Addr}
theorem sc_wrong : FnScope ["self"] ["self"] (defScope s_Reader_wrong) := ⟨rfl, rfl, rfl, by decide +kernel, rfl, by decide +kernel, by decide +kernel⟩
theorem ok_wrong (R : RC g.K g.mg C) (F : MT g C "wrong" "Reader.wrong" s_Reader_wrong) (TT : XC g.K g.mg "BadText" CT) (IT : XI g CT ["self", "line", "word"] 1 (spInit2 CT "line" "word")) : Md g C "wrong" ["self"] 3 (spWrong C CT) := by
  refine md_of F sc_wrong (fun _ _ _ _ ⟨S, i, d, e, _⟩ => by rw [e] <;> rfl) (fun _ _ _ _ _ _ us hl => match us, hl with | [_], _ => rfl) (fun f cdv A outer s H vs Q E hr h => ?_)
  obtain ⟨S, i, d, rfl, I, k⟩ := h
  refine ws_raise2 rfl TT IT hr takesE ((vd_fld1 0 rfl I.ob R.cl R.n2 (rf_line ..) (.int S.ln)).use fun w H1 e1 dw => ?_)
  obtain rfl := dw.int_v
  refine (vd_add (vd_fld1 0 rfl (I.up e1).ob R.cl R.n4 (rf_at ..) (.int (i : Int))) vd_int).use fun w H2 e2 dw => ?_
  obtain rfl := dw.int_v
  exact fun dd H3 _ hT => k dd H3 ⟨.of (Evl.Ex.trans e1 (Evl.Ex.trans e2 hT.1)), hT.2⟩
theorem sc_peek : FnScope ["self"] ["self"] (defScope s_Reader_peek) := ⟨rfl, rfl, rfl, by decide +kernel, rfl, by decide +kernel, by decide +kernel⟩
theorem ok_peek (T : Nm g.mg) (R : RC g.K g.mg C) (F : MT g C "peek" "Reader.peek" s_Reader_peek) : Md g C "peek" ["self"] 1 (spPeek C) := by
  refine md_of F sc_peek (fun _ _ _ _ ⟨S, i, d, e, _⟩ => by rw [e] <;> rfl) (fun _ _ _ _ _ _ us hl => match us, hl with | [_], _ => rfl) (fun f cdv A outer s H vs Q E hr h => ?_)
  obtain ⟨S, i, d, rfl, I, k⟩ := h
  refine ws_retD (d := .str (tok S.ts i)) (vd_if (vt_lt (vd_fld1 0 rfl I.ob R.cl R.n4 (rf_at ..) (.int (i : Int))) (vd_len T.len (vd_fld1 0 rfl I.ob R.cl R.n1 (rf_tokens ..) I.toks))) (fun ht => ?_) (fun ht => ?_)) (fun v H1 e1 dv => by obtain rfl := dv.str_v; exact k H1 e1)
  · have hi : i < S.ts.length := by have := of_decide_eq_true ht; simp only [strD, List.length_map] at this; omega
    have hk : S.ts[i]? = some (tok S.ts i) := by unfold tok; rw [List.getElem?_eq_getElem hi]; rfl
    exact vd_ixL (vd_fld1 0 rfl I.ob R.cl R.n1 (rf_tokens ..) I.toks) (vd_fld1 0 rfl I.ob R.cl R.n4 (rf_at ..) (.int (i : Int))) (strD_at hk)
  · have hi : S.ts.length ≤ i := by have := of_decide_eq_false ht; simp only [strD, List.length_map] at this; omega
    have hk : tok S.ts i = "" := by unfold tok; rw [List.getElem?_eq_none hi]; rfl
    rw [hk]
    exact vd_str
theorem sc_next_is : FnScope ["self", "token"] ["self", "token"] (defScope s_Reader_next_is) := ⟨rfl, rfl, rfl, by decide +kernel, rfl, by decide +kernel, by decide +kernel⟩
theorem ok_next_is (T : Nm g.mg) (R : RC g.K g.mg C) (F : MT g C "next_is" "Reader.next_is" s_Reader_next_is) : Md g C "next_is" ["self", "token"] 1 (spNext C) := by
  refine md_of F sc_next_is (fun _ _ _ _ ⟨S, i, d, t, e, _⟩ => by rw [e] <;> rfl) (fun _ _ _ _ _ _ us hl => match us, hl with | [_, _], _ => rfl) (fun f cdv A outer s H vs Q E hr h => ?_)
  obtain ⟨S, i, d, t, rfl, I, k⟩ := h
  refine ws_if (VW.vt (vw_and (u := decide (S.ts[i]? = some t)) (vt_lt (vd_fld1 0 rfl I.ob R.cl R.n4 (rf_at ..) (.int (i : Int))) (vd_len T.len (vd_fld1 0 rfl I.ob R.cl R.n1 (rf_tokens ..) I.toks))) fun ht => ?_)) (fun ht H1 e1 => ?_) (fun ht H1 e1 => ?_)
  · have hi : i < S.ts.length := by have := of_decide_eq_true ht; simp only [strD, List.length_map] at this; omega
    refine vw_and1 ((vt_eqS (vd_ixL (vd_fld1 0 rfl I.ob R.cl R.n1 (rf_tokens ..) I.toks) (vd_fld1 0 rfl I.ob R.cl R.n4 (rf_at ..) (.int (i : Int))) (strD_at (List.getElem?_eq_getElem hi))) (vd_var 1 rfl (.str t))).to ?_)
    rw [List.getElem?_eq_getElem hi, decide_eq_decide]
    exact ⟨fun e => by rw [e], fun e => Option.some.inj e⟩
  · have he : S.ts[i]? = some t := by
      simp only [Bool.and_eq_true, decide_eq_true_eq] at ht
      exact ht.2
    refine ws_cons (.of (ps_fldaug WE.pe WE.pe in_add) ?_)
    refine we_var 0 rfl ⟨S.r, C, S.dx, _, _, rfl, (I.up e1).ob, R.cl, R.n4, rf_at .., vd_int.use fun w H2 e2 dw => ⟨(i : Int), 1, rfl, dw.int_v, _, _, (I.up (Evl.Ex.trans e1 e2)).ob, by show (5 : Nat) < 1000; decide, ?_⟩⟩
    rw [rf_putAt]
    have J := (I.up (Evl.Ex.trans e1 e2)).putAt (i + 1)
    have K2 : ExB S.r H (upd H2 S.r (.ins C S.dx (rf S.l S.ln ((i : Int) + 1) d))) := ExB.trans (.of (Evl.Ex.trans e1 e2)) .upd
    refine ws_retD vd_bl fun w H3 e3 dw => ?_
    obtain rfl := dw.bl_v
    have y := k H3
    rw [if_pos he, decide_eq_true he] at y
    exact y (RTo.ex ⟨J, K2⟩ e3)
  · have he : S.ts[i]? ≠ some t := fun e => by
      have hi := (List.getElem?_eq_some_iff.mp e).1
      rw [e, decide_eq_true rfl, Bool.and_true] at ht
      have := of_decide_eq_false ht
      simp only [strD, List.length_map] at this
      omega
    refine ws_nil (ws_retD vd_bl fun w H3 e3 dw => ?_)
    obtain rfl := dw.bl_v
    have y := k H3
    rw [if_neg he, decide_eq_false he] at y
    exact y ⟨I.up (Evl.Ex.trans e1 e3), .of (Evl.Ex.trans e1 e3)⟩
theorem sc_need : FnScope ["self", "token"] ["self", "token"] (defScope s_Reader_need) := ⟨rfl, rfl, rfl, by decide +kernel, rfl, by decide +kernel, by decide +kernel⟩
theorem ok_need (R : RC g.K g.mg C) (F : MT g C "need" "Reader.need" s_Reader_need) (GN : Md g C "next_is" ["self", "token"] 1 (spNext C)) (GW : Md g C "wrong" ["self"] 3 (spWrong C CT)) : Md g C "need" ["self", "token"] 4 (spNeed C CT) := by
  refine md_of F sc_need (fun _ _ _ _ ⟨S, i, d, t, e, _⟩ => by rw [e] <;> rfl) (fun _ _ _ _ _ _ us hl => match us, hl with | [_, _], _ => rfl) (fun f cdv A outer s H vs Q E hr h => ?_)
  obtain ⟨S, i, d, t, rfl, I, k1, k2⟩ := h
  refine ws_ifW (wt_not (wt_val (we_meth GN R.cl (hr.mono (by omega)) passE (we_var 0 rfl ⟨S.r, S.dx, _, rfl, I.ob, rfl, wa_cons (we_var 1 rfl (wa_nil ⟨S, i, d, t, rfl, I, fun H1 J => ⟨_, rfl, ?_⟩⟩))⟩))))
  by_cases ht : S.ts[i]? = some t
  · rw [if_pos ht] at J
    rw [decide_eq_true ht]
    exact iteF (ws_nil (ws_nil (k1 ht H1 J)))
  · rw [if_neg ht] at J
    rw [decide_eq_false ht]
    exact iteT (ws_expr (we_meth0 GW R.cl hr passE (we_var 0 rfl ⟨S.r, S.dx, _, rfl, J.at_.ob, rfl, S, i, d, rfl, J.at_, fun dd H2 hW => k2 ht dd H2 (hW.pre J.kp)⟩)))
theorem sc_end : FnScope ["self"] ["self"] (defScope s_Reader_end) := ⟨rfl, rfl, rfl, by decide +kernel, rfl, by decide +kernel, by decide +kernel⟩
theorem ok_end (T : Nm g.mg) (R : RC g.K g.mg C) (F : MT g C "end" "Reader.end" s_Reader_end) (GW : Md g C "wrong" ["self"] 3 (spWrong C CT)) : Md g C "end" ["self"] 4 (spEnd C CT) := by
  refine md_of F sc_end (fun _ _ _ _ ⟨S, i, d, e, _⟩ => by rw [e] <;> rfl) (fun _ _ _ _ _ _ us hl => match us, hl with | [_], _ => rfl) (fun f cdv A outer s H vs Q E hr h => ?_)
  obtain ⟨S, i, d, rfl, I, k1, k2⟩ := h
  have hl : (strD S.ts).length = S.ts.length := by simp [strD]
  refine ws_if (vt_lt (vd_fld1 0 rfl I.ob R.cl R.n4 (rf_at ..) (.int (i : Int))) (vd_len T.len (vd_fld1 0 rfl I.ob R.cl R.n1 (rf_tokens ..) I.toks))) (fun ht H1 e1 => ?_) (fun ht H1 e1 => ?_)
  · have := of_decide_eq_true ht
    exact ws_expr (we_meth0 GW R.cl hr passE (we_var 0 rfl ⟨S.r, S.dx, _, rfl, (I.up e1).ob, rfl, S, i, d, rfl, I.up e1, fun dd H2 hW => k2 (by omega) dd H2 (hW.pre (.of e1))⟩))
  · have := of_decide_eq_false ht
    exact ws_nil (ws_nil (k1 (by omega) H1 ⟨I.up e1, .of e1⟩))
theorem num_of {z : Str} (h : numL 400 (tl z) = true) : z.length ≤ 400 ∧ PySem.intText? z = some (numOf z) ∧ numOf z = (PySem.NumText.digitsVal (tl z) : Nat) := by
  unfold numL at h
  simp only [Bool.and_eq_true, decide_eq_true_eq] at h
  obtain ⟨⟨⟨h1, h2⟩, h3⟩, _⟩ := h
  have hl : z.length ≤ 400 := by rw [TL.len_tl]; exact h2
  have e := PySem.intText_digits (x := z) (fun c hc => by
    have := List.all_eq_true.mp h3 c hc
    unfold isFig at this
    simpa using this) (fun e => by rw [show tl z = [] from e] at h1; cases h1) (by omega)
  have e2 : numOf z = (PySem.NumText.digitsVal (tl z) : Nat) := by unfold numOf; rw [e]; rfl
  exact ⟨hl, by rw [e, e2], e2⟩
theorem sc_numeral : FnScope ["self"] ["self"] (defScope s_Reader_numeral) := ⟨rfl, rfl, rfl, by decide +kernel, rfl, by decide +kernel, by decide +kernel⟩
theorem ok_numeral (T : Nm g.mg) (R : RC g.K g.mg C) (F : MT g C "numeral" "Reader.numeral" s_Reader_numeral) (GN : Fd g "is_numeral" ["token", "most"] 1 (spF g.K 2 fIsNum)) (GP : Md g C "peek" ["self"] 1 (spPeek C)) (GW : Md g C "wrong" ["self"] 3 (spWrong C CT)) : Md g C "numeral" ["self"] 4 (spNumeral C CT) := by
  refine md_of F sc_numeral (fun _ _ _ _ ⟨S, i, d, e, _⟩ => by rw [e] <;> rfl) (fun _ _ _ _ _ _ us hl => match us, hl with | [_], _ => rfl) (fun f cdv A outer s H vs Q E hr h => ?_)
  obtain ⟨S, i, d, rfl, I, k⟩ := h
  have hlen : (tok S.ts i).length ≤ 40000 := tok_len I.sh
  refine ws_if (vt_not (vt_val (vd_call (n := 2) (r := .bool (numL 400 (tl (tok S.ts i)))) GN (hr.mono (by omega)) (va2 (d := .str (tok S.ts i)) (fun H1 e1 => ?_) (vd_fld1 0 rfl I.ob R.cl R.n3 (rf_most ..) (.int 400))) rfl (if_pos ⟨by decide, hlen⟩)))) (fun ht H1 e1 => ?_) (fun ht H1 e1 => ?_)
  · exact we_meth0 GP R.cl (hr.mono (by omega)) passE (we_var 0 rfl ⟨S.r, S.dx, _, rfl, (I.up e1).ob, rfl, S, i, d, rfl, I.up e1, fun H2 e2 => ⟨e2, .str _⟩⟩)
  · have hn : numL 400 (tl (tok S.ts i)) = false := by simpa using ht
    have hp : pNum S.ts i = .error i := by unfold pNum; rw [hn]; rfl
    rw [hp] at k
    exact ws_expr (we_meth0 GW R.cl hr passE (we_var 0 rfl ⟨S.r, S.dx, _, rfl, (I.up e1).ob, rfl, S, i, d, rfl, I.up e1, fun dd H2 hW => k dd H2 (hW.pre (.of e1))⟩))
  · have hn : numL 400 (tl (tok S.ts i)) = true := by simpa using ht
    have hp : pNum S.ts i = .ok (numOf (tok S.ts i), i + 1) := by unfold pNum; rw [if_pos hn]
    rw [hp] at k
    obtain ⟨n1, n2, _⟩ := num_of hn
    have hi : i < S.ts.length := by
      apply Nat.lt_of_not_le
      intro hle
      have e : tok S.ts i = "" := by unfold tok; rw [List.getElem?_eq_none hle]; rfl
      rw [e, str_nil.mp rfl] at hn
      cases hn
    have hk : S.ts[i]? = some (tok S.ts i) := by unfold tok; rw [List.getElem?_eq_getElem hi]; rfl
    refine ws_nil (ws_cons (.of (ps_fldaug WE.pe WE.pe in_add) ?_))
    refine we_var 0 rfl ⟨S.r, C, S.dx, _, _, rfl, (I.up e1).ob, R.cl, R.n4, rf_at .., vd_int.use fun w H2 e2 dw => ⟨(i : Int), 1, rfl, dw.int_v, _, _, (I.up (Evl.Ex.trans e1 e2)).ob, by show (5 : Nat) < 1000; decide, ?_⟩⟩
    rw [rf_putAt]
    have J : RTo C S (i + 1) d H (upd H2 S.r (.ins C S.dx (rf S.l S.ln ((i : Int) + 1) d))) := ⟨(I.up (Evl.Ex.trans e1 e2)).putAt (i + 1), ExB.trans (.of (Evl.Ex.trans e1 e2)) .upd⟩
    refine ws_retD (vd_intS T.int (vd_ixL (vd_fld1 0 rfl J.at_.ob R.cl R.n1 (rf_tokens ..) J.at_.toks) ((vd_sub (vd_fld1 0 rfl J.at_.ob R.cl R.n4 (rf_at ..) (.int (((i + 1 : Nat) : Int)))) vd_int).to (by rw [show ((i + 1 : Nat) : Int) - 1 = (i : Int) by omega])) (strD_at hk)) n2 (by omega)) fun w H3 e3 dw => ?_
    obtain rfl := dw.int_v
    exact k H3 (J.ex e3)
theorem sc_init : FnScope ["self", "tokens", "line", "most"] ["self", "tokens", "line", "most"] (defScope s_Reader_init) := ⟨rfl, rfl, rfl, by decide +kernel, rfl, by decide +kernel, by decide +kernel⟩
def spInit (C : Addr) : Sp := fun vs H Q _ => ∃ S : RS, vs = [.ref S.r, .ref S.l, .int S.ln, .int 400] ∧ H S.r = some (.ins C S.dx []) ∧ H S.l = some (.lst (S.ts.map V.str)) ∧ S.ts.length ≤ 40000 ∧ (∀ t, t ∈ S.ts → t.length ≤ 40000) ∧ ∀ H', RTo C S 0 0 H H' → Q .non H'
theorem ok_init (R : RC g.K g.mg C) (F : MT g C "__init__" "Reader.__init__" s_Reader_init) : Md g C "__init__" ["self", "tokens", "line", "most"] 1 (spInit C) := by
  refine md_of F sc_init (fun _ _ _ _ ⟨S, e, _⟩ => by rw [e] <;> rfl) (fun _ _ _ _ _ _ us hl => match us, hl with | [_, _, _, _], _ => rfl) (fun f cdv A outer s H vs Q E hr h => ?_)
  obtain ⟨S, rfl, h0, hl, hf, hs, k⟩ := h
  have nl : S.l ≠ S.r := fun e => by rw [e, h0] at hl; cases hl
  refine ws_fld (we_var 1 rfl (we_var 0 rfl ⟨S.r, C, S.dx, _, rfl, h0, R.cl, R.n1, by show (0 : Nat) < 1000; decide, ?_⟩))
  refine ws_fld (we_var 2 rfl (we_var 0 rfl ⟨S.r, C, S.dx, _, rfl, upd_same, R.cl, R.n2, by show (1 : Nat) < 1000; decide, ?_⟩))
  refine ws_fld (we_var 3 rfl (we_var 0 rfl ⟨S.r, C, S.dx, _, rfl, upd_same, R.cl, R.n3, by show (2 : Nat) < 1000; decide, ?_⟩))
  refine ws_fld (vd_int.use fun w H1 e1 dw => we_var 0 rfl ⟨S.r, C, S.dx, _, rfl, e1 _ _ upd_same, R.cl, R.n4, by show (3 : Nat) < 1000; decide, ?_⟩)
  obtain rfl := dw.int_v
  refine ws_fld (vd_int.use fun w H2 e2 dw => we_var 0 rfl ⟨S.r, C, S.dx, _, rfl, e2 _ _ upd_same, R.cl, R.n5, by show (4 : Nat) < 1000; decide, ?_⟩)
  obtain rfl := dw.int_v
  have kp : ExB S.r H (upd H2 S.r (.ins C S.dx (rf S.l S.ln 0 0))) := ExB.trans .upd (ExB.trans .upd (ExB.trans .upd (ExB.trans (.of e1) (ExB.trans .upd (ExB.trans (.of e2) .upd)))))
  exact ws_nil (k _ ⟨⟨upd_same, kp _ _ nl hl, hf, hs⟩, kp⟩)
end
end G

/-! # D8: numbers and values read -/
namespace G
open PySem PySem.Spec PyProof.Rows L2
section
variable {X : Cx} {a b : Expr} {es : List Expr} {σ : St} {H : Hp} {pos : Pos} {Q : Bool → Hp → Prop}
theorem WT.ofW {e : Expr} {t : TT} (h : PW X e t) (q : t σ H Q) : WT X e σ H Q := fun pins s I => h.run _ pins s σ H Q I q
theorem wt_and (h : WT X a σ H fun c H1 => if c = true then WT X b σ H1 Q else Q false H1) : WT X (.BoolOp .And [a, b] pos) σ H Q := .ofW (pw_and WT.pt (pw_and1 WT.pt)) h
theorem wt_or (h : WT X a σ H fun c H1 => if c = true then Q true H1 else WT X b σ H1 Q) : WT X (.BoolOp .Or [a, b] pos) σ H Q := .ofW (pw_or WT.pt (pw_or1 WT.pt)) h
theorem we_tup {z} {Q : VK} (h : WA X es σ H fun vs H1 => vs.length ≤ sizeLine ∧ ∀ p, H1 p = none → Q (.ref p) (upd H1 p (.tup vs))) : WE X (.Tuple es z pos) σ H Q := .of (pe_tup WA.pa) h
end
theorem w1_ifW {X : Cx} {c : Expr} {σ : St} {H : Hp} {pos : Pos} {body els : List Stmt} {D : Ends} (h : WT X c σ H fun t H1 => if t = true then WS X body D σ H1 else WS X els D σ H1) : W1 X (.If c body els pos) D σ H := .of (ps_if WT.pt WS.ps WS.ps) h
abbrev Res := Except Nat (PyData × Nat)
def negD (b : Bool) (v : PyData) : PyData := if b = true then (match v with
  | .int i => .int (-i)
  | .tuple [.int t, .int u] => .tuple [.int (-t), .int u]
  | v => v) else v
def pRat (ts : List Str) (i : Nat) : Res :=
  match pNum ts (if ts[i]? = some ("-" : Str) then i + 1 else i) with
  | .error p => .error p
  | .ok (n, j) =>
    if ts[i]? = some ("-" : Str) ∧ n = 0 then .error (i + 1) else
    if n ≠ 0 ∧ ts[j]? = some ("/" : Str) then
      match pNum ts (j + 1) with
      | .error p => .error p
      | .ok (m, k) => if isRatio (.tuple [.int n, .int m]) = true then .ok (negD (decide (ts[i]? = some ("-" : Str))) (.tuple [.int n, .int m]), k) else .error (j + 1)
    else .ok (negD (decide (ts[i]? = some ("-" : Str))) (.int n), j)
def Post (K : PySem.W.Frag) (C CT : Addr) (S : RS) (d : Int) (H : Hp) (Q : VK) (E : XK) : Res → Prop
  | .ok (v, j) => ∀ w H', RTo C S j d H H' → Dp K H' w v → Q w H'
  | .error p => ∀ dd H', Wrong S p dd H H' → E (.ref CT) (some dd) H'
def spRat (K : PySem.W.Frag) (C CT : Addr) : Sp := fun vs H Q E => ∃ S i d, vs = [.ref S.r] ∧ RIn C S i d H ∧ Post K C CT S d H Q E (pRat S.ts i)
section
variable {g : Gd} {C CT : Addr}
theorem sc_ratio_by : FnScope ["reader", "below", "start", "top", "found"] ["reader"] (defScope s_ratio_by) := ⟨rfl, rfl, rfl, by decide +kernel, rfl, by decide +kernel, by decide +kernel⟩
theorem ok_ratio_by (T : Nm g.mg) (R : RC g.K g.mg C) (F : FT g "ratio_by" s_ratio_by) (GN : Md g C "next_is" ["self", "token"] 1 (spNext C)) (GM : Md g C "numeral" ["self"] 4 (spNumeral C CT)) (GW : Md g C "wrong" ["self"] 3 (spWrong C CT)) (GR : Fd g "is_ratio" ["value"] 2 (spF g.K 1 fIsRatio)) (GO : Fd g "opposite" ["number"] 1 (spF g.K 1 fOpposite)) : Fd g "ratio_by" ["reader"] 5 (spRat g.K C CT) := by
  obtain ⟨f, fd, F, hm⟩ := F
  refine fd_of F hm sc_ratio_by (fun _ _ _ _ ⟨S, i, d, e, _⟩ => by rw [e] <;> rfl) (fun _ _ _ _ _ _ us hl => match us, hl with | [_], _ => rfl) (fun cdv A outer s H vs Q E hr h => ?_)
  obtain ⟨S, i, d, rfl, I, k⟩ := h
  refine ws_set 1 sc_ratio_by.nd (we_meth GN R.cl (hr.mono (by omega)) passE (we_var 0 rfl ⟨S.r, S.dx, _, rfl, I.ob, rfl, wa_cons (vd_str.use fun t0 H1 e1 dt => wa_nil ⟨S, i, d, "-", by rw [dt.str_v], I.up e1, fun H2 J => ?_⟩)⟩))
  obtain ⟨s0, hs0⟩ : ∃ s0, s0 = (if S.ts[i]? = some ("-" : Str) then i + 1 else i) := ⟨_, rfl⟩
  rw [← hs0] at J
  unfold pRat at k
  rw [← hs0] at k
  obtain ⟨b, hb⟩ : ∃ b, b = decide (S.ts[i]? = some ("-" : Str)) := ⟨_, rfl⟩
  rw [← hb] at k ⊢
  have J0 : RTo C S s0 d H H2 := RTo.pre e1 J
  refine ws_setI 2 sc_ratio_by.nd (vd_fld1 0 rfl J.at_.ob R.cl R.n4 (rf_at ..) (.int (s0 : Int))) fun H3 e3 => ?_
  have J3 := J0.ex e3
  refine ws_set 3 sc_ratio_by.nd (we_meth0 GM R.cl hr passE (we_var 0 rfl ⟨S.r, S.dx, _, rfl, J3.at_.ob, rfl, S, s0, d, rfl, J3.at_, ?_⟩))
  cases hp : pNum S.ts s0 with
  | error p =>
    rw [hp] at k
    exact fun dd H4 hW => k dd H4 (hW.pre J3.kp)
  | ok nj =>
    obtain ⟨n, j⟩ := nj
    rw [hp] at k
    intro H4 J4
    have J4' := J3.trans J4
    simp only at k
    by_cases hz : S.ts[i]? = some ("-" : Str) ∧ n = 0
    · have e0 : s0 = i + 1 := by rw [hs0, if_pos hz.1]
      rw [if_pos hz, ← e0] at k
      have hbt : b = true := by rw [hb]; exact decide_eq_true hz.1
      refine ws_if (VW.vt (vw_and (u := decide (n = 0)) (vt_val (vd_var 1 rfl (.bl b))) fun _ => vw_and1 (vt_eq (vd_var 3 rfl (.int n)) vd_int))) (fun ht H5 e5 => ?_) (fun ht H5 e5 => ?_)
      · refine ws_fld (we_var 2 rfl (we_var 0 rfl ⟨S.r, C, S.dx, _, rfl, (J4.at_.up e5).ob, R.cl, R.n4, by show (5 : Nat) < 1000; decide, ?_⟩))
        rw [rf_putAt]
        have J5 := (J4.at_.up e5).putAt s0
        refine ws_expr (we_meth0 GW R.cl (hr.mono (by omega)) passE (we_var 0 rfl ⟨S.r, S.dx, _, rfl, J5.ob, rfl, S, s0, d, rfl, J5, fun dd H6 hW => k dd H6 ?_⟩))
        exact hW.pre (J4'.kp.trans (ExB.trans (.of e5) .upd))
      · rw [hbt, Bool.true_and] at ht
        exact absurd hz.2 (of_decide_eq_false ht)
    · rw [if_neg hz] at k
      refine ws_if (VW.vt (vw_and (u := decide (n = 0)) (vt_val (vd_var 1 rfl (.bl b))) fun _ => vw_and1 (vt_eq (vd_var 3 rfl (.int n)) vd_int))) (fun ht H5 e5 => ?_) (fun ht H5 e5 => ?_)
      · rw [hb] at ht
        simp only [Bool.and_eq_true, decide_eq_true_eq] at ht
        exact absurd ht hz
      · refine ws_nil (ws_set 4 sc_ratio_by.nd (we_var 3 rfl ?_))
        refine ws_cut (fun σ' H' => ∃ o2 v dv j', σ' = [some (.ref S.r), some (.bl b), o2, some (.int n), some v] ∧ RTo C S j' d H H' ∧ Dp g.K H' v dv ∧ (∃ r, fOpposite [dv] = some r ∧ r = negD true dv) ∧ ∀ w H', RTo C S j' d H H' → Dp g.K H' w (negD b dv) → Q w H') ?_ ?_
        · refine w1_ifW (wt_and ((vt_ne (vd_var 3 rfl (.int n)) vd_int).use fun H6 e6 => ?_))
          have J6 := J4'.ex (Evl.Ex.trans e5 e6)
          by_cases hn : n = 0
          · rw [if_neg (by simp [hn])] at k
            rw [if_neg (by simp [hn])]
            rw [if_neg (by simp [hn])]
            exact ws_nil ⟨_, _, .int n, j, rfl, J6, .int n, ⟨_, rfl, rfl⟩, k⟩
          · rw [if_pos (by simp [hn])]
            refine wt_val (we_meth GN R.cl (hr.mono (by omega)) passE (we_var 0 rfl ⟨S.r, S.dx, _, rfl, J6.at_.ob, rfl, wa_cons (vd_str.use fun t0 H7 e7 dt => wa_nil ⟨S, j, d, "/", by rw [dt.str_v], J6.at_.up e7, fun H8 J8 => ⟨_, rfl, ?_⟩⟩)⟩))
            by_cases hsl : S.ts[j]? = some ("/" : Str)
            · rw [if_pos ⟨hn, hsl⟩] at k
              rw [if_pos hsl] at J8
              rw [decide_eq_true hsl]
              have J8' := (J6.ex e7).trans J8
              refine iteT (ws_setI 2 sc_ratio_by.nd (vd_fld1 0 rfl J8.at_.ob R.cl R.n4 (rf_at ..) (.int ((j + 1 : Nat) : Int))) fun H9 e9 => ?_)
              have J9 := J8'.ex e9
              refine ws_set 4 sc_ratio_by.nd (we_tup (wa_cons (we_var 3 rfl (wa_cons (we_meth0 GM R.cl hr passE (we_var 0 rfl ⟨S.r, S.dx, _, rfl, J9.at_.ob, rfl, S, j + 1, d, rfl, J9.at_, ?_⟩))))))
              cases hp2 : pNum S.ts (j + 1) with
              | error p =>
                rw [hp2] at k
                exact fun dd H10 hW => k dd H10 (hW.pre J9.kp)
              | ok nj =>
                obtain ⟨m, q⟩ := nj
                rw [hp2] at k
                refine fun H10 J10 => wa_nil ⟨show 2 ≤ sizeLine from small_line (by decide), fun a ha => ?_⟩
                simp only at k
                have J11 : RTo C S q d H (upd H10 a (.tup [.int n, .int m])) := (J9.trans J10).ex (Evl.Ex.new ha)
                have D11 : Dp g.K (upd H10 a (.tup [.int n, .int m])) (.ref a) (.tuple [.int n, .int m]) := .tup (SqT.of upd_same) (.cons (.int n) (.one (.int m)))
                refine ws_if (vt_not (vt_val (vd_call (n := 1) (r := .bool (isRatio (.tuple [.int n, .int m]))) GR (hr.mono (by omega)) (va1 (vd_var 4 rfl D11)) rfl rfl))) (fun ht H12 e12 => ?_) (fun ht H12 e12 => ?_)
                · rw [if_neg (by simpa using ht)] at k
                  refine ws_fld (we_var 2 rfl (we_var 0 rfl ⟨S.r, C, S.dx, _, rfl, (J11.at_.up e12).ob, R.cl, R.n4, by show (5 : Nat) < 1000; decide, ?_⟩))
                  rw [rf_putAt]
                  have J13 := (J11.at_.up e12).putAt (j + 1)
                  exact ws_expr (we_meth0 GW R.cl (hr.mono (by omega)) passE (we_var 0 rfl ⟨S.r, S.dx, _, rfl, J13.ob, rfl, S, j + 1, d, rfl, J13, fun dd H14 hW => k dd H14 (hW.pre (J11.kp.trans (ExB.trans (.of e12) .upd)))⟩))
                · rw [if_pos (by simpa using ht)] at k
                  exact ws_nil (ws_nil ⟨_, _, .tuple [.int n, .int m], q, rfl, J11.ex e12, D11.up e12, ⟨_, rfl, rfl⟩, k⟩)
            · rw [if_neg (fun h => hsl h.2)] at k
              rw [if_neg hsl] at J8
              rw [decide_eq_false hsl]
              exact iteF (ws_nil ⟨_, _, .int n, j, rfl, (J6.ex e7).trans J8, .int n, ⟨_, rfl, rfl⟩, k⟩)
        · rintro σ' H6 ⟨o2, v, dv, j', rfl, J6, D6, ⟨r, h1, h2⟩, hq⟩
          refine ws_ret (we_if (vt_val (vd_var 1 rfl (.bl b))) (fun hb H2 e2 => ?_) (fun hb H2 e2 => ?_))
          · subst hb
            exact (vd_call (n := 1) (r := r) GO (hr.mono (by omega)) (va1 (vd_var 4 rfl (D6.up e2))) rfl h1).use fun w H3 e3 dw => hq w H3 (J6.ex (Evl.Ex.trans e2 e3)) (by rw [← h2]; exact dw)
          · refine we_var 4 rfl (hq v H2 (J6.ex e2) ?_)
            subst hb
            exact D6.up e2
end
end G

/-! # D9: value_by, value_in, value_of_text -/
namespace G
open PySem PySem.Spec PyProof.Rows L2
def pMore (f : Nat → Option Res) (ts : List Str) : Nat → List PyData → Nat → Option Res
  | 0, _, _ => none
  | m + 1, vs, k =>
    if ts[k]? = some ("," : Str) then
      match f (k + 1) with
      | none => none
      | some (.error p) => some (.error p)
      | some (.ok (v, j)) => pMore f ts m (vs ++ [v]) j
    else if ts[k]? = some (")" : Str) then some (.ok (.tuple vs, k + 1)) else some (.error k)
def pVal (ts : List Str) : Nat → Nat → Option Res
  | 0, _ => none
  | n + 1, i =>
    if ts[i]? = some ("(" : Str) then
      if ts[i + 1]? = some (")" : Str) then some (.ok (.tuple [], i + 2)) else
      match pVal ts n (i + 1) with
      | none => none
      | some (.error p) => some (.error p)
      | some (.ok (v, j)) =>
        if ts[j]? = some ("," : Str) then
          if ts[j + 1]? = some (")" : Str) then some (.ok (.tuple [v], j + 2)) else
          match pVal ts n (j + 1) with
          | none => none
          | some (.error p) => some (.error p)
          | some (.ok (u, k)) => pMore (pVal ts n) ts ts.length [v, u] k
        else some (.error j)
    else some (pRat ts i)
theorem imm_negD {b : Bool} {v : PyData} (h : imm v = true) : imm (negD b v) = true := by
  unfold negD
  split
  · split
    · rfl
    · rfl
    · exact h
  · exact h
theorem pRat_imm {ts : List Str} {i j : Nat} {v : PyData} (h : pRat ts i = .ok (v, j)) : imm v = true := by
  unfold pRat at h
  split at h
  · cases h
  · split at h
    · cases h
    · split at h
      · split at h
        · cases h
        · split at h
          · have e := (Prod.mk.inj (Except.ok.inj h)).1
            rw [← e]
            exact imm_negD rfl
          · cases h
      · have e := (Prod.mk.inj (Except.ok.inj h)).1
        rw [← e]
        exact imm_negD rfl
theorem pMore_imm {f : Nat → Option Res} {ts : List Str} (hf : ∀ k v j, f k = some (.ok (v, j)) → imm v = true) : ∀ (m : Nat) (vs : List PyData) (k : Nat) (v : PyData) (j : Nat), immAll vs = true → pMore f ts m vs k = some (.ok (v, j)) → imm v = true
  | 0, _, _, _, _, _, h => by cases h
  | m + 1, vs, k, v, j, hv, h => by
    unfold pMore at h
    split at h
    · split at h
      · cases h
      · cases h
      · rename_i w j' he
        exact pMore_imm hf m _ _ _ _ (immAll_app hv (by simp only [immAll, Bool.and_true]; exact hf _ _ _ he)) h
    · split at h
      · have e := (Prod.mk.inj (Except.ok.inj (Option.some.inj h))).1
        rw [← e]
        exact hv
      · cases h
theorem pVal_imm {ts : List Str} : ∀ (n i : Nat) (v : PyData) (j : Nat), pVal ts n i = some (.ok (v, j)) → imm v = true
  | 0, _, _, _, h => by cases h
  | n + 1, i, v, j, h => by
    unfold pVal at h
    split at h
    · split at h
      · have e := (Prod.mk.inj (Except.ok.inj (Option.some.inj h))).1
        rw [← e]
        rfl
      · split at h
        · cases h
        · cases h
        · rename_i w j1 h1
          have i1 := pVal_imm n _ _ _ h1
          split at h
          · split at h
            · have e := (Prod.mk.inj (Except.ok.inj (Option.some.inj h))).1
              rw [← e]
              simp only [imm, immAll, Bool.and_true]
              exact i1
            · split at h
              · cases h
              · cases h
              · rename_i u k h2
                have i2 := pVal_imm n _ _ _ h2
                exact pMore_imm (fun k v j => pVal_imm n k v j) _ _ _ _ _ (by simp only [immAll, Bool.and_true, Bool.and_eq_true]; exact ⟨i1, i2⟩) h
          · cases h
    · exact pRat_imm (Option.some.inj h)
theorem Post.pre {K : PySem.W.Frag} {C CT : Addr} {S : RS} {d : Int} {H H1 : Hp} {Q : VK} {E : XK} {r : Res} (h : Post K C CT S d H Q E r) (e : ExB S.r H H1) : Post K C CT S d H1 Q E r := by
  cases r with
  | error p => exact fun dd H' W => h dd H' (W.pre e)
  | ok vj => exact fun w H' J D => h w H' ⟨J.at_, e.trans J.kp⟩ D
theorem RTo.mutL {C : Addr} {S : RS} {i : Nat} {d : Int} {H H' : Hp} {l : Addr} {o : HO} (h : RTo C S i d H H') (h0 : H l = none) (h1 : l ≠ S.r) (h2 : l ≠ S.l) : RTo C S i d H (upd H' l o) :=
  ⟨⟨by rw [upd_ne h1.symm]; exact h.at_.ob, by rw [upd_ne h2.symm]; exact h.at_.li, h.at_.few, h.at_.sh⟩, fun a u n e => by rw [upd_ne (fun q => by rw [q, h0] at e; cases e)]; exact h.kp a u n e⟩
theorem ExB.none {r l : Addr} {H H' : Hp} (e : ExB r H H') (n : l ≠ r) (h : H' l = none) : H l = none := by
  cases e1 : H l with
  | none => rfl
  | some o => rw [e l o n e1] at h; cases h
theorem ne_of_none' {a b : Addr} {H : Hp} {o : HO} (h : H a = none) (k : H b = some o) : a ≠ b := fun e => by rw [e, k] at h; cases h
def lstLen (l : Addr) (H : Hp) : Nat := match H l with
  | some (.lst ws) => ws.length
  | _ => 0
theorem lstLen_eq {l : Addr} {H : Hp} {ws : List V} (h : H l = some (.lst ws)) : lstLen l H = ws.length := by unfold lstLen; rw [h]
def spVal (K : PySem.W.Frag) (C CT : Addr) (n : Nat) : Sp := fun vs H Q E => ∃ S i d r, vs = [.ref S.r] ∧ RIn C S i d H ∧ d + n ≤ 50 ∧ pVal S.ts n i = some r ∧ Post K C CT S d H Q E r
section
variable {g : Gd} {C CT : Addr}
theorem sc_value_by : FnScope ["reader", "found"] ["reader"] (defScope s_value_by) := ⟨rfl, rfl, rfl, by decide +kernel, rfl, by decide +kernel, by decide +kernel⟩
theorem st_value_by (T : Nm g.mg) (R : RC g.K g.mg C) (F : FT g "value_by" s_value_by) (GN : Md g C "next_is" ["self", "token"] 1 (spNext C)) (GD : Md g C "need" ["self", "token"] 4 (spNeed C CT)) (GR : Fd g "ratio_by" ["reader"] 5 (spRat g.K C CT)) (n : Nat) (G : Fd g "value_by" ["reader"] (n + 6) (spVal g.K C CT n)) : Fd g "value_by" ["reader"] (n + 7) (spVal g.K C CT (n + 1)) := by
  obtain ⟨f, fd, F, hm⟩ := F
  refine fd_of F hm sc_value_by (fun _ _ _ _ ⟨S, i, d, r, e, _⟩ => by rw [e] <;> rfl) (fun _ _ _ _ _ _ us hl => match us, hl with | [_], _ => rfl) (fun cdv A outer s H vs Q E hr h => ?_)
  obtain ⟨S, i, d, res, rfl, I, hd, hres, k⟩ := h
  obtain ⟨tD, hmD⟩ := T.deep
  have hres0 := hres
  unfold pVal at hres
  refine ws_ifW (wt_or ((vt_ge (vd_fld1 0 rfl I.ob R.cl R.n5 (rf_deep ..) (.int d)) (vd_gint hmD)).use fun H1 e1 => ?_))
  rw [if_neg (by simp only [decide_eq_true_eq]; omega)]
  refine wt_not (wt_val (we_meth GN R.cl (hr.mono (by omega)) passE (we_var 0 rfl ⟨S.r, S.dx, _, rfl, (I.up e1).ob, rfl, wa_cons (vd_str.use fun t0 H2 e2 dt => wa_nil ⟨S, i, d, "(", by rw [dt.str_v], (I.up e1).up e2, fun H3 J3 => ⟨_, rfl, ?_⟩⟩)⟩)))
  have e12 := Evl.Ex.trans e1 e2
  by_cases hp : S.ts[i]? = some ("(" : Str)
  · rw [if_pos hp] at hres J3
    rw [decide_eq_true hp]
    have J0 : RTo C S (i + 1) d H H3 := RTo.pre e12 J3
    refine iteF (ws_nil (ws_ifW (wt_val (we_meth GN R.cl (hr.mono (by omega)) passE (we_var 0 rfl ⟨S.r, S.dx, _, rfl, J0.at_.ob, rfl, wa_cons (vd_str.use fun t0 H4 e4 dt => wa_nil ⟨S, i + 1, d, ")", by rw [dt.str_v], J0.at_.up e4, fun H5 J5 => ⟨_, rfl, ?_⟩⟩)⟩)))))
    by_cases hq : S.ts[i + 1]? = some (")" : Str)
    · rw [if_pos hq] at hres J5
      rw [decide_eq_true hq]
      obtain rfl := Option.some.inj hres
      exact iteT (ws_retD (vd_tup va_nil (by simp)) fun w H6 e6 dw => k w H6 (((J0.ex e4).trans J5).ex e6) dw)
    · rw [if_neg hq] at hres J5
      rw [decide_eq_false hq]
      have J1 : RTo C S (i + 1) d H H5 := (J0.ex e4).trans J5
      refine iteF (ws_nil (ws_cons (.of (ps_fldaug WE.pe WE.pe in_add) ?_)))
      refine we_var 0 rfl ⟨S.r, C, S.dx, _, _, rfl, J1.at_.ob, R.cl, R.n5, rf_deep .., vd_int.use fun w H6 e6 dw => ⟨d, 1, rfl, dw.int_v, _, _, (J1.at_.up e6).ob, by show (5 : Nat) < 1000; decide, ?_⟩⟩
      rw [rf_putDeep]
      have J2 : RTo C S (i + 1) (d + 1) H (upd H6 S.r (.ins C S.dx (rf S.l S.ln (((i + 1 : Nat) : Int)) (d + 1)))) := ⟨(J1.at_.up e6).putDeep (d + 1), (J1.ex e6).kp.trans .upd⟩
      refine ws_set 1 sc_value_by.nd (we_lst (wa_cons (we_call G (hr.mono (by omega)) passE (wa_cons (we_var 0 rfl ?_)))))
      cases hv : pVal S.ts n (i + 1) with
      | none => rw [hv] at hres; cases hres
      | some r1 =>
        refine wa_nil ⟨S, i + 1, d + 1, r1, rfl, J2.at_, by omega, hv, ?_⟩
        rw [hv] at hres
        cases r1 with
        | error p =>
          obtain rfl := Option.some.inj hres
          exact k.pre J2.kp
        | ok vj =>
          obtain ⟨v, j⟩ := vj
          intro u H7 J7 D7
          have J7' := J2.trans J7
          refine wa_nil ⟨show 1 ≤ sizeLine from small_line (by decide), fun l hl => ?_⟩
          have n1 : l ≠ S.r := ne_of_none' hl J7.at_.ob
          have n2 : l ≠ S.l := ne_of_none' hl J7.at_.li
          have hl0 : H l = none := J7'.kp.none n1 hl
          have iv : imm v = true := pVal_imm _ _ _ _ hv
          have J8 : RTo C S j (d + 1) H (upd H7 l (.lst [u])) := J7'.mutL hl0 n1 n2
          have D8 : Dp g.K (upd H7 l (.lst [u])) u v := D7.up (Evl.Ex.new hl)
          simp only at hres
          refine ws_expr (we_meth GD R.cl (hr.mono (by omega)) passE (we_var 0 rfl ⟨S.r, S.dx, _, rfl, J8.at_.ob, rfl, wa_cons (vd_str.use fun t0 H9 e9 dt => wa_nil ⟨S, j, d + 1, ",", by rw [dt.str_v], J8.at_.up e9, fun hc H10 J10 => ?_, fun hc => ?_⟩)⟩))
          · rw [if_pos hc] at hres
            have J11 := (J8.ex e9).trans J10
            have hl9 : H9 l = some (.lst [u]) := e9 _ _ upd_same
            have hl10 : H10 l = some (.lst [u]) := J10.kp.lst (J8.at_.up e9).ob hl9
            have D10 : Dp g.K H10 u v := (D8.up e9).upI iv (J10.kp.toI (J8.at_.up e9).ob)
            refine ws_cut (fun σ' H' => ∃ ws vs j', σ' = [some (.ref S.r), some (.ref l)] ∧ RTo C S j' (d + 1) H H' ∧ H' l = some (.lst ws) ∧ DpAll g.K H' ws vs ∧ res = .ok (.tuple vs, j')) ?_ ?_
            · refine w1_ifW (wt_not (wt_val (we_meth GN R.cl (hr.mono (by omega)) passE (we_var 0 rfl ⟨S.r, S.dx, _, rfl, J11.at_.ob, rfl, wa_cons (vd_str.use fun t0 H12 e12 dt => wa_nil ⟨S, j + 1, d + 1, ")", by rw [dt.str_v], J11.at_.up e12, fun H13 J13 => ⟨_, rfl, ?_⟩⟩)⟩))))
              have hl12 : H12 l = some (.lst [u]) := e12 _ _ hl10
              have hl13 : H13 l = some (.lst [u]) := J13.kp.lst (J11.at_.up e12).ob hl12
              have D13 : Dp g.K H13 u v := (D10.up e12).upI iv (J13.kp.toI (J11.at_.up e12).ob)
              have J14 := (J11.ex e12).trans J13
              by_cases hr2 : S.ts[j + 1]? = some (")" : Str)
              · rw [if_pos hr2] at hres J14
                rw [decide_eq_true hr2]
                exact iteF (ws_nil ⟨[u], [v], _, rfl, J14, hl13, .one D13, (Option.some.inj hres).symm⟩)
              · rw [if_neg hr2] at hres J14
                rw [decide_eq_false hr2]
                refine iteT (ws_expr (we_append (l := l) (xs := [u]) (we_var 1 rfl ⟨rfl, hl13, we_call G (hr.mono (by omega)) passE (wa_cons (we_var 0 rfl ?_))⟩)))
                cases hv2 : pVal S.ts n (j + 1) with
                | none => rw [hv2] at hres; cases hres
                | some r2 =>
                  refine wa_nil ⟨S, j + 1, d + 1, r2, rfl, J14.at_, by omega, hv2, ?_⟩
                  rw [hv2] at hres
                  cases r2 with
                  | error p =>
                    obtain rfl := Option.some.inj hres
                    exact k.pre J14.kp
                  | ok vj =>
                    obtain ⟨v2, j2⟩ := vj
                    intro u2 H15 J15 D15
                    simp only at hres
                    have iv2 : imm v2 = true := pVal_imm _ _ _ _ hv2
                    have hl15 : H15 l = some (.lst [u]) := J15.kp.lst J14.at_.ob hl13
                    have D15' : Dp g.K H15 u v := D13.upI iv (J15.kp.toI J14.at_.ob)
                    have J16 : RTo C S j2 (d + 1) H (upd H15 l (.lst ([u] ++ [u2]))) := (J14.trans J15).mutL hl0 n1 n2
                    refine ⟨hl15, by show 1 < 100000; decide, ?_⟩
                    refine ws_while (fun σ H' => ∃ ws vs k' m, σ = [some (.ref S.r), some (.ref l)] ∧ RTo C S k' (d + 1) H H' ∧ H' l = some (.lst ws) ∧ DpAll g.K H' ws vs ∧ immAll vs = true ∧ pMore (pVal S.ts n) S.ts m vs k' = some res ∧ vs.length + m ≤ 40010) (fun _ H' => 50000 - lstLen l H') passO ⟨_, [v, v2], j2, S.ts.length, rfl, J16, upd_same, .cons (D15'.upI iv (ExI.lst hl15)) (.one (D15.upI iv2 (ExI.lst hl15))), by simp only [immAll, Bool.and_true, Bool.and_eq_true]; exact ⟨iv, iv2⟩, hres, by have := J16.at_.few; simp only [List.length_cons, List.length_nil]; omega⟩ ?_
                    rintro σ H17 ⟨ws, vs, k', m, rfl, J17, hl17, D17, i17, hm17, hb17⟩
                    cases m with
                    | zero => cases hm17
                    | succ m =>
                    unfold pMore at hm17
                    refine wt_val (we_meth GN R.cl (hr.mono (by omega)) passE (we_var 0 rfl ⟨S.r, S.dx, _, rfl, J17.at_.ob, rfl, wa_cons (vd_str.use fun t0 H18 e18 dt => wa_nil ⟨S, k', d + 1, ",", by rw [dt.str_v], J17.at_.up e18, fun H19 J19 => ⟨_, rfl, ?_⟩⟩)⟩))
                    have o18 := (J17.at_.up e18).ob
                    have hl19 : H19 l = some (.lst ws) := J19.kp.lst o18 (e18 _ _ hl17)
                    have D19 : DpAll g.K H19 ws vs := (D17.up e18).upI i17 (J19.kp.toI o18)
                    have J20 := (J17.ex e18).trans J19
                    by_cases hcm : S.ts[k']? = some ("," : Str)
                    · rw [if_pos hcm] at hm17 J20
                      rw [decide_eq_true hcm]
                      refine iteT (ws_expr (we_append (l := l) (xs := ws) (we_var 1 rfl ⟨rfl, hl19, we_call G (hr.mono (by omega)) passE (wa_cons (we_var 0 rfl ?_))⟩)))
                      cases hv3 : pVal S.ts n (k' + 1) with
                      | none => rw [hv3] at hm17; cases hm17
                      | some r3 =>
                        refine wa_nil ⟨S, k' + 1, d + 1, r3, rfl, J20.at_, by omega, hv3, ?_⟩
                        rw [hv3] at hm17
                        cases r3 with
                        | error p =>
                          obtain rfl := Option.some.inj hm17
                          exact k.pre J20.kp
                        | ok vj =>
                          obtain ⟨v3, j3⟩ := vj
                          intro u3 H21 J21 D21
                          simp only at hm17
                          have iv3 : imm v3 = true := pVal_imm _ _ _ _ hv3
                          have hl21 : H21 l = some (.lst ws) := J21.kp.lst J20.at_.ob hl19
                          have D21' : DpAll g.K H21 ws vs := D19.upI i17 (J21.kp.toI J20.at_.ob)
                          have J22 : RTo C S j3 (d + 1) H (upd H21 l (.lst (ws ++ [u3]))) := (J20.trans J21).mutL hl0 n1 n2
                          have hwl := D19.len
                          refine ⟨hl21, by omega, ws_nil ⟨⟨_, vs ++ [v3], j3, m, rfl, J22, upd_same, (D21'.upI i17 (ExI.lst hl21)).app (.one (D21.upI iv3 (ExI.lst hl21))), immAll_app i17 (by simp only [immAll, Bool.and_true]; exact iv3), hm17, by rw [List.length_append, List.length_cons, List.length_nil]; omega⟩, ?_⟩⟩
                          show 50000 - lstLen l (upd H21 l (.lst (ws ++ [u3]))) < 50000 - lstLen l H17
                          rw [lstLen_eq upd_same, lstLen_eq hl17, List.length_append, List.length_cons, List.length_nil]
                          omega
                    · rw [if_neg hcm] at hm17 J20
                      rw [decide_eq_false hcm]
                      refine iteF (ws_expr (we_meth GD R.cl (hr.mono (by omega)) passE (we_var 0 rfl ⟨S.r, S.dx, _, rfl, J20.at_.ob, rfl, wa_cons (vd_str.use fun t0 H22 e22 dt => wa_nil ⟨S, k', d + 1, ")", by rw [dt.str_v], J20.at_.up e22, fun hc2 H23 J23 => ?_, fun hc2 => ?_⟩)⟩)))
                      · rw [if_pos hc2] at hm17
                        have o22 := (J20.at_.up e22).ob
                        exact ws_nil ⟨ws, vs, k' + 1, rfl, (J20.ex e22).trans J23, J23.kp.lst o22 (e22 _ _ hl19), (D19.up e22).upI i17 (J23.kp.toI o22), (Option.some.inj hm17).symm⟩
                      · rw [if_neg hc2] at hm17
                        obtain rfl := Option.some.inj hm17
                        exact (k.pre J20.kp).pre (.of e22)
            · rintro σ' H12 ⟨ws, vs, j', rfl, J12, hl12, D12, hrs⟩
              subst hrs
              refine ws_cons (.of (ps_fldaug WE.pe WE.pe in_sub) ?_)
              refine we_var 0 rfl ⟨S.r, C, S.dx, _, _, rfl, J12.at_.ob, R.cl, R.n5, rf_deep .., vd_int.use fun w H6 e6 dw => ⟨d + 1, 1, rfl, dw.int_v, _, _, (J12.at_.up e6).ob, by show (5 : Nat) < 1000; decide, ?_⟩⟩
              rw [rf_putDeep, show d + 1 - 1 = d by omega]
              have J13 : RTo C S j' d H (upd H6 S.r (.ins C S.dx (rf S.l S.ln (j' : Int) d))) := ⟨(J12.at_.up e6).putDeep d, (J12.ex e6).kp.trans .upd⟩
              have o6 := (J12.at_.up e6).ob
              have hl13 : (upd H6 S.r (.ins C S.dx (rf S.l S.ln (j' : Int) d))) l = some (.lst ws) := by rw [upd_ne n1]; exact e6 _ _ hl12
              have im : immAll vs = true := pVal_imm (ts := S.ts) (n + 1) i (.tuple vs) j' hres0
              have D13 : DpAll g.K (upd H6 S.r (.ins C S.dx (rf S.l S.ln (j' : Int) d))) ws vs := (D12.up e6).upI im (ExI.ins o6)
              exact ws_retD (vd_tuple T.tuple (VL.vd (vl_var 1 rfl hl13 D13))) fun w H14 e14 dw => k w H14 (J13.ex e14) dw
          · rw [if_neg hc] at hres
            obtain rfl := Option.some.inj hres
            exact (k.pre J8.kp).pre (.of e9)
  · rw [if_neg hp] at hres J3
    rw [decide_eq_false hp]
    obtain rfl := Option.some.inj hres
    have K3 : ExB S.r H H3 := ExB.trans (.of e12) J3.kp
    exact iteT (ws_ret (we_call GR (hr.mono (by omega)) passE (wa_cons (we_var 0 rfl (wa_nil ⟨S, i, d, rfl, J3.at_, k.pre K3⟩)))))
theorem ok_value_by (T : Nm g.mg) (R : RC g.K g.mg C) (F : FT g "value_by" s_value_by) (GN : Md g C "next_is" ["self", "token"] 1 (spNext C)) (GD : Md g C "need" ["self", "token"] 4 (spNeed C CT)) (GR : Fd g "ratio_by" ["reader"] 5 (spRat g.K C CT)) : ∀ n, Fd g "value_by" ["reader"] (n + 6) (spVal g.K C CT n)
  | 0 => (fd_vac F (fun vs H Q E ⟨S, i, d, r, _, _, _, h, _⟩ => by cases h) (fun _ _ _ _ _ _ us hl => match us, hl with | [_], _ => rfl)).mono (by omega)
  | n + 1 => st_value_by T R F GN GD GR n (ok_value_by T R F GN GD GR n)
end
end G

/-! # D10: value_in, value_of_text -/
namespace G
open PySem PySem.Spec PyProof.Rows L2
structure RM (K : PySem.W.Frag) (mg : Str → Option Value) (C : Addr) : Prop where
  makes : PySem.W.makesIn K C = true
  kp : PySem.W.keepIn K (.ref C) = true
  mgC : mg "Reader" = some (.ref C)
section
variable {X : Cx} {e : Expr} {es : List Expr} {σ : St} {H : Hp} {Q : VK} {pos p : Pos} {x : Str} {k : Nat} {sp : Sp} {E : XK} {ps : List Str} {C : Addr}
theorem we_make (h1 : PySem.W.makesIn X.K C = true) (h2 : PySem.W.keepIn X.K (.ref C) = true) (hm : X.mg x = some (.ref C)) (F : Md (Cxg X) C "__init__" ps k sp) (hr : Room (k + 1) X.A) (hx : Passes (L2.CX X.prog X.w) X E)
    (h : WA X (e :: es) σ H fun vs H1 => ∀ x dx, H1 x = none → H1 dx = none → dx ≠ x → sp (.ref x :: vs) (upd (upd H1 dx (.own x)) x (.ins C dx [])) (fun v H2 => v = .non ∧ Q (.ref x) H2) E) (hg : Gl X x := by rfl) (hdb : (x == ("__debug__" : Str)) = false := by decide)
    (he : starEach (e :: es) X.env = (false, eval e X.env) :: starEach es X.env := by rfl) (hpl : (backTo pos (starEach es X.env)).any (·.1) = false := by rfl) : WE X (.Call (.Name x p) (e :: es) [] pos) σ H Q := by
  obtain ⟨f, fd, ok, m, hb⟩ := F
  refine .of (pe_make ⟨h1, m.at_, m.fn, h2⟩ ok hr hg hm hb .nil hx WA.pa hdb he hpl) (h.mono fun vs H1 z x dx hx hdx ne => ?_)
  rw [List.append_nil]
  exact z x dx hx hdx ne
end
/-- all of it read -/
def pAll (ts : List Str) (n i : Nat) : Option (Except Nat PyData) := match pVal ts n i with
  | none => none
  | some (.error p) => some (.error p)
  | some (.ok (v, j)) => if ts.length ≤ j then some (.ok v) else some (.error j)
/-- an error of a text, at a line and a word -/
def TextErr (CT : Addr) (E : XK) (H : Hp) (ln wd : Int) : Prop := ∀ dd H', Ex H H' → H' dd = some (.xd [("word", .int wd), ("line", .int ln)]) → E (.ref CT) (some dd) H'
def spIn (K : PySem.W.Frag) (CT : Addr) (n : Nat) : Sp := fun vs H Q E => ∃ (l : Addr) (ts : List Str) (i : Nat) (ln : Int) (r : Except Nat PyData), vs = [.ref l, .int i, .int ln] ∧ H l = some (.lst (ts.map V.str)) ∧ ts.length ≤ 40000 ∧ (∀ t, t ∈ ts → t.length ≤ 40000) ∧ pAll ts n i = some r ∧ match r with
  | .ok v => ∀ w H', Ex H H' → Dp K H' w v → Q w H'
  | .error p => TextErr CT E H ln ((p : Int) + 1)
theorem toI_new {r C dx : Addr} {fs : List (Str × V)} {H0 H H' : Hp} (e : ExB r H H') (h : H0 r = none) (k : Ex H0 H) : Ex H0 H' := e.ex h k
section
variable {g : Gd} {C CT : Addr}
theorem sc_value_in : FnScope ["tokens", "at", "line", "reader", "found"] ["tokens", "at", "line"] (defScope s_value_in) := ⟨rfl, rfl, rfl, by decide +kernel, rfl, by decide +kernel, by decide +kernel⟩
theorem ok_value_in (T : Nm g.mg) (R : RC g.K g.mg C) (M : RM g.K g.mg C) (F : FT g "value_in" s_value_in) (GI : Md g C "__init__" ["self", "tokens", "line", "most"] 1 (spInit C)) (GE : Md g C "end" ["self"] 4 (spEnd C CT)) (n : Nat) (hn : n ≤ 50) (GV : Fd g "value_by" ["reader"] (n + 6) (spVal g.K C CT n)) : Fd g "value_in" ["tokens", "at", "line"] (n + 7) (spIn g.K CT n) := by
  obtain ⟨f, fd, F, hm⟩ := F
  refine fd_of F hm sc_value_in (fun _ _ _ _ ⟨l, ts, i, ln, r, e, _⟩ => by rw [e] <;> rfl) (fun _ _ _ _ _ _ us hl => match us, hl with | [_, _, _], _ => rfl) (fun cdv A outer s H vs Q E hr h => ?_)
  obtain ⟨l, ts, i, ln, r, rfl, hl, hf, hsh, hr0, k⟩ := h
  obtain ⟨tM, hmM⟩ := T.plain
  refine ws_set 3 sc_value_in.nd (we_make M.makes M.kp M.mgC GI (hr.mono (by omega)) passE (wa_cons (we_var 0 rfl (wa_cons (we_var 2 rfl (wa_cons ((vd_gint hmM).use fun w H1 e1 dw => wa_nil fun x dx hx hdx ne => ?_)))))))
  obtain rfl := dw.int_v
  have hx2 : (upd H1 dx (.own x)) x = none := by rw [upd_ne ne.symm]; exact hx
  have e2 : Ex H (upd (upd H1 dx (.own x)) x (.ins C dx [])) := Evl.Ex.trans e1 (Evl.Ex.trans (Evl.Ex.new hdx) (Evl.Ex.new hx2))
  have hx0 : H x = none := Evl.fresh_back e1 hx
  refine ⟨⟨x, dx, l, ts, ln⟩, rfl, upd_same, e2 _ _ hl, hf, hsh, fun H2 J2 => ⟨rfl, ?_⟩⟩
  refine ws_fld (we_var 1 rfl (we_var 3 rfl ⟨x, C, dx, _, rfl, J2.at_.ob, R.cl, R.n4, by show (5 : Nat) < 1000; decide, ?_⟩))
  rw [rf_putAt]
  have J3 := J2.at_.putAt i
  have e3 : Ex H _ := (J2.kp.trans (ExB.upd (o := .ins C dx (rf l ln (i : Int) 0)))).ex hx0 e2
  obtain ⟨r1, hv⟩ : ∃ r1, pVal ts n i = some r1 := by
    unfold pAll at hr0
    cases h : pVal ts n i with
    | none => rw [h] at hr0; cases hr0
    | some r1 => exact ⟨r1, rfl⟩
  unfold pAll at hr0
  rw [hv] at hr0
  refine ws_set 4 sc_value_in.nd (we_call GV hr passE (wa_cons (we_var 3 rfl (wa_nil ⟨⟨x, dx, l, ts, ln⟩, i, 0, r1, rfl, J3, by omega, hv, ?_⟩))))
  cases r1 with
  | error p =>
    obtain rfl := Option.some.inj hr0
    exact fun dd H4 W => k dd H4 (W.1.ex hx0 e3) W.2
  | ok vj =>
    obtain ⟨v, j⟩ := vj
    intro w H4 J4 D4
    have e4 : Ex H H4 := J4.kp.ex hx0 e3
    have iv := pVal_imm _ _ _ _ hv
    simp only at hr0
    refine ws_expr (we_meth0 GE R.cl (hr.mono (by omega)) passE (we_var 3 rfl ⟨x, dx, _, rfl, J4.at_.ob, rfl, ⟨x, dx, l, ts, ln⟩, j, 0, rfl, J4.at_, fun hj H5 J5 => ?_, fun hj dd H5 W => ?_⟩))
    · rw [if_pos hj] at hr0
      obtain rfl := Option.some.inj hr0
      exact ws_ret (we_var 4 rfl (k w H5 (J5.kp.ex hx0 e4) (D4.upI iv (J5.kp.toI J4.at_.ob))))
    · rw [if_neg (by show ¬ ts.length ≤ j; have : j < ts.length := hj; omega)] at hr0
      obtain rfl := Option.some.inj hr0
      exact k dd H5 (W.1.ex hx0 e4) W.2
theorem tokL_len : ∀ (n : Nat) (cs : List Nat), cs.length ≤ n → (tokL cs).length ≤ cs.length ∧ ∀ t, t ∈ tokL cs → t.length ≤ cs.length
  | _, [], _ => by rw [tokL_nil]; simp
  | 0, c :: cs, h => by simp at h
  | n + 1, c :: cs, h => by
    have h' : cs.length ≤ n := by simpa using h
    have step : ∀ ds : List Nat, ds.length ≤ cs.length → (tokL ds).length ≤ cs.length ∧ ∀ t, t ∈ tokL ds → t.length ≤ cs.length := fun ds hd =>
      let y := tokL_len n ds (by omega)
      ⟨by omega, fun t ht => Nat.le_trans (y.2 t ht) hd⟩
    have tw : ∀ p : Nat → Bool, (cs.takeWhile p).length ≤ cs.length := fun p => (List.takeWhile_prefix p).length_le
    have both : ∀ (w : List Nat) (ds : List Nat), w.length ≤ cs.length + 1 → ds.length ≤ cs.length → (w :: tokL ds).length ≤ (c :: cs).length ∧ ∀ t, t ∈ w :: tokL ds → t.length ≤ (c :: cs).length := fun w ds hw hd => by
      obtain ⟨a, b⟩ := step ds hd
      refine ⟨by simp only [List.length_cons]; omega, fun t ht => ?_⟩
      rcases List.mem_cons.mp ht with e | e
      · rw [e, List.length_cons]; exact hw
      · have := b t e
        rw [List.length_cons]; omega
    rw [tokL_cons]
    split
    · obtain ⟨a, b⟩ := step cs (Nat.le_refl _)
      exact ⟨by rw [List.length_cons]; omega, fun t ht => by have := b t ht; rw [List.length_cons]; omega⟩
    · split
      · exact both _ _ (by rw [List.length_cons]; have := tw isFig; omega) (dropWhile_le _ _)
      · split
        · exact both _ _ (by rw [List.length_cons]; have := tw isLet; omega) (dropWhile_le _ _)
        · exact both _ _ (by simp) (Nat.le_refl _)
theorem toks_len (z : Str) : (toks z).length ≤ z.length ∧ ∀ t, t ∈ toks z → t.length ≤ z.length := by
  obtain ⟨a, b⟩ := tokL_len _ (tl z) (Nat.le_refl _)
  unfold toks
  rw [TL.len_tl z]
  refine ⟨by rw [List.length_map]; exact a, fun t ht => ?_⟩
  obtain ⟨w, hw, rfl⟩ := List.mem_map.mp ht
  rw [TL.len_tl]
  exact b w hw
end
end G

/-! # D10b: value_of_text -/
namespace G
open PySem PySem.Spec PyProof.Rows L2
section
variable {g : Gd} {C CT : Addr}
theorem sc_value_of_text : FnScope ["text"] ["text"] (defScope s_value_of_text) := ⟨rfl, rfl, rfl, by decide +kernel, rfl, by decide +kernel, by decide +kernel⟩
def spOfText (K : PySem.W.Frag) (CT : Addr) (n : Nat) : Sp := fun vs H Q E => ∃ v d, vs = [v] ∧ Dp K H v d ∧ match d with
  | .str z => z.length ≤ 40000 ∧ ∃ r, pAll (toks z) n 0 = some r ∧ match r with
    | .ok v => ∀ w H', Ex H H' → Dp K H' w v → Q w H'
    | .error p => TextErr CT E H 1 ((p : Int) + 1)
  | _ => TextErr CT E H 0 0
theorem ok_value_of_text (n : Nat) (F : FT g "value_of_text" s_value_of_text) (GT : Fd g "tokens_of" ["text"] 3 (spTokens g.K CT)) (GI : Fd g "value_in" ["tokens", "at", "line"] (n + 7) (spIn g.K CT n)) : Fd g "value_of_text" ["text"] (n + 8) (spOfText g.K CT n) := by
  obtain ⟨f, fd, F, hm⟩ := F
  refine fd_of F hm sc_value_of_text (fun _ _ _ _ ⟨v, d, e, _⟩ => by rw [e] <;> rfl) (fun _ _ _ _ _ _ us hl => match us, hl with | [_], _ => rfl) (fun cdv A outer s H vs Q E hr h => ?_)
  obtain ⟨v, d, rfl, hv, h⟩ := h
  refine ws_ret (we_call GI hr passE (wa_cons (we_call GT (hr.mono (by omega)) passE (wa_cons (we_var 0 rfl (wa_nil ⟨v, d, rfl, hv, fun z hz => ?_, fun hz dd H1 hT => ?_⟩))))))
  · subst hz
    obtain ⟨hlen, r, hr0, k⟩ := h
    refine ⟨by omega, fun w H1 e1 ⟨l, xs, ew, hl, dx⟩ => ?_⟩
    obtain rfl := dx.strD_v
    obtain ⟨t1, t2⟩ := toks_len z
    subst ew
    refine wa_cons (vd_int.use fun w0 H2 e2 dw => wa_cons (vd_int.use fun w1 H3 e3 dw1 => wa_nil ?_))
    obtain rfl := dw.int_v
    obtain rfl := dw1.int_v
    refine ⟨l, toks z, 0, 1, r, rfl, e3 _ _ (e2 _ _ hl), by omega, fun t ht => Nat.le_trans (t2 t ht) hlen, hr0, ?_⟩
    have e123 := Evl.Ex.trans e1 (Evl.Ex.trans e2 e3)
    cases r with
    | ok v => exact fun w H' e D => k w H' (Evl.Ex.trans e123 e) D
    | error p => exact fun dd H' e x => k dd H' (Evl.Ex.trans e123 e) x
  · cases d with
    | str z => exact absurd rfl (hz z)
    | _ => exact h dd H1 hT.1 hT.2
end
end G

/-! # D11: dicts of texts; the pen -/
namespace G
open PySem PySem.Spec PyProof.Rows L2
section
variable {X : Cx} {o i e : Expr} {σ : St} {H : Hp} {Q : VK} {pos p p2 : Pos} {x : Str} {rest : List Stmt} {D : Ends}
theorem we_dget (hu : X.A.units + 1 < cLine) (h : WE X o σ H fun x H1 => WE X i σ H1 fun y H2 => ∃ a v, x = .ref a ∧ DGet H2 a y (some v) ∧ Q v H2) (hs : NoSl i := by exact fun _ _ => rfl) : WE X (.Subscript o i pos) σ H Q := .of (pe_dget hu WE.pe WE.pe hs) h
theorem vd_dget (hu : X.A.units + 1 < cLine) (j : Nat) {a : Addr} {kvs : List (Key × V)} {s : Str} {v : V} {d : PyData} {jc} (h : σ[j]? = some (some (.ref a))) (ho : H a = some (.dK kvs)) (hl : valV kvs (.inr s) = some v) (hd : Dp X.K H v d) (hN : X.N[j]? = some x := by rfl) (hv : Vis X.env.scope x := by first | exact Or.inl rfl | exact Or.inr (Or.inl rfl) | exact Or.inr (Or.inr rfl))
    (h1 : (x == ("__debug__" : Str)) = false := by decide) (h2 : (x == ("__classdict__" : Str)) = false := by decide) (hs : NoSl (.Constant (.str s) jc p2) := by exact fun _ _ => rfl) : VD X (.Subscript (.Name x p) (.Constant (.str s) jc p2) pos) σ H d := fun H1 e1 =>
  we_dget hu (we_var j h (vd_str.use fun y H2 e2 dy => ⟨a, v, rfl, by rw [dy.str_v, ← hl]; exact DGet.k (k := .inr s) (e2 _ _ (e1 _ _ ho)), e2, hd.up (Evl.Ex.trans e1 e2)⟩) hN hv h1 h2) hs
theorem ws_dput (hu : X.A.units + 1 < cLine) (j : Nat) {a : Addr} {s : Str} {jc} (hj : σ[j]? = some (some (.ref a))) (h : WE X e σ H fun v H1 => ∃ kvs, H1 a = some (.dK kvs) ∧ kvs.length < 100000 ∧ ∀ H2, Ex H1 H2 → WS X rest D σ (upd H2 a (.dK (putK kvs (.inr s) v)))) (hN : X.N[j]? = some x := by rfl) (hv : Vis X.env.scope x := by first | exact Or.inl rfl | exact Or.inr (Or.inl rfl) | exact Or.inr (Or.inr rfl))
    (h1 : (x == ("__debug__" : Str)) = false := by decide) (h2 : (x == ("__classdict__" : Str)) = false := by decide) (hs : swapsWith e (some (.Subscript (.Name x p) (.Constant (.str s) jc p2) pos)) q.line X.env = pure false := by rfl) : WS X (.Assign [.Subscript (.Name x p) (.Constant (.str s) jc p2) pos] e q :: rest) D σ H :=
  ws_cons (.of (ps_dput hu WE.pe WE.pe WE.pe hs) (h.mono fun v H1 ⟨kvs, hk, hz, k⟩ => we_var j hj (vd_str.use fun y H2 e2 dy => ⟨a, _, rfl, by rw [dy.str_v]; exact DPut.k (k := .inr s) (e2 _ _ hk) (Nat.lt_of_lt_of_le hz (by decide)), k H2 e2⟩) hN hv h1 h2))
end
/-! ### the pen -/
def pn (lc : Addr) (i dg ct fo : Int) : List (Key × V) := [(.inr "cells", .ref lc), (.inr "at", .int i), (.inr "digits", .int dg), (.inr "count", .int ct), (.inr "fold", .int fo)]
section
variable (lc : Addr) (i dg ct fo y : Int)
theorem pn_cells : valV (pn lc i dg ct fo) (.inr "cells") = some (.ref lc) := rfl
theorem pn_at : valV (pn lc i dg ct fo) (.inr "at") = some (.int i) := rfl
theorem pn_digits : valV (pn lc i dg ct fo) (.inr "digits") = some (.int dg) := rfl
theorem pn_count : valV (pn lc i dg ct fo) (.inr "count") = some (.int ct) := rfl
theorem pn_fold : valV (pn lc i dg ct fo) (.inr "fold") = some (.int fo) := rfl
theorem pn_putAt : putK (pn lc i dg ct fo) (.inr "at") (.int y) = pn lc y dg ct fo := rfl
theorem pn_putDigits : putK (pn lc i dg ct fo) (.inr "digits") (.int y) = pn lc i y ct fo := rfl
theorem pn_putCount : putK (pn lc i dg ct fo) (.inr "count") (.int y) = pn lc i dg y fo := rfl
theorem pn_putFold : putK (pn lc i dg ct fo) (.inr "fold") (.int y) = pn lc i dg ct y := rfl
end
structure PenI (a lc : Addr) (i dg ct fo : Int) (cells : List Int) (H : Hp) : Prop where
  ob : H a = some (.dK (pn lc i dg ct fo))
  li : H lc = some (.lst (cells.map V.int))
  at0 : 0 ≤ i
  few : cells.length ≤ 100000
def Pen (a lc : Addr) (H : Hp) : Prop := ∃ (i dg ct fo : Int) (cells : List Int), PenI a lc i dg ct fo cells H
theorem PenI.up {a lc : Addr} {i dg ct fo : Int} {cells : List Int} {H H' : Hp} (h : PenI a lc i dg ct fo cells H) (e : Ex H H') : PenI a lc i dg ct fo cells H' := ⟨e _ _ h.ob, e _ _ h.li, h.at0, h.few⟩
theorem Pen.up {a lc : Addr} {H H' : Hp} (h : Pen a lc H) (e : Ex H H') : Pen a lc H' := by
  obtain ⟨i, dg, ct, fo, cells, h⟩ := h
  exact ⟨i, dg, ct, fo, cells, h.up e⟩
theorem PenI.put {a lc : Addr} {i dg ct fo i' dg' ct' fo' : Int} {cells : List Int} {H : Hp} (h : PenI a lc i dg ct fo cells H) (h0 : 0 ≤ i') : PenI a lc i' dg' ct' fo' cells (upd H a (.dK (pn lc i' dg' ct' fo'))) :=
  ⟨upd_same, by rw [upd_ne (fun e => by have y := h.li; rw [e, h.ob] at y; cases y)]; exact h.li, h0, h.few⟩
theorem ExB.toI_pen {a lc : Addr} {H H' : Hp} (e : ExB a H H') (h : Pen a lc H) : ExI H H' := by
  obtain ⟨i, dg, ct, fo, cells, h⟩ := h
  exact fun b o hb _ n _ _ => e b o (fun q => by rw [q, h.ob] at hb; exact n _ (Option.some.inj hb).symm) hb
theorem ExB.lst_pen {a lc l : Addr} {xs : List V} {H H' : Hp} (e : ExB a H H') (h : Pen a lc H) (hl : H l = some (.lst xs)) : H' l = some (.lst xs) := by
  obtain ⟨i, dg, ct, fo, cells, h⟩ := h
  exact e l _ (fun q => by rw [q, h.ob] at hl; cases hl) hl
/-- a digit drawn -/
def spDraw : Sp := fun vs H Q _ => ∃ (a lc : Addr) (m : Int), vs = [.ref a, .int m] ∧ Pen a lc H ∧ 0 < m ∧ m ≤ 1000000000 ∧ ∀ (v : Int) H', 0 ≤ v → v < m → Pen a lc H' → ExB a H H' → Q (.int v) H'
section
variable {g : Gd}
theorem sc_draw : FnScope ["pen", "many", "cell", "digit", "blend"] ["pen", "many"] (defScope s__law_draw) := ⟨rfl, rfl, rfl, by decide +kernel, rfl, by decide +kernel, by decide +kernel⟩
theorem cp18 : CPowW 10 18 := ⟨by decide, by decide +kernel⟩
theorem ok_draw (T : Nm g.mg) (F : FT g "_law_draw" s__law_draw) : Fd g "_law_draw" ["pen", "many"] 1 spDraw := by
  obtain ⟨f, fd, F, hm⟩ := F
  refine fd_of F hm sc_draw (fun _ _ _ _ ⟨a, lc, m, e, _⟩ => by rw [e] <;> rfl) (fun _ _ _ _ _ _ us hl => match us, hl with | [_, _], _ => rfl) (fun cdv A outer s H vs Q E hr h => ?_)
  obtain ⟨a, lc, m, rfl, ⟨i, dg, ct, fo, cells, I⟩, hm0, hm1, k⟩ := h
  have hu : (A.deeper (envOfC "_law_draw" (defScope s__law_draw) s.heap.objs.size f cdv)).units + 1 < cLine := by have := hr.units; omega
  refine ws_dput hu 0 rfl ((vd_add (vd_dget hu 0 rfl I.ob (pn_count ..) (.int ct)) vd_int).use fun v H1 e1 dv => ⟨_, (I.up e1).ob, by show 5 < 100000; decide, fun H2 e2 => ?_⟩)
  obtain rfl := dv.int_v
  rw [pn_putCount]
  have I2 : PenI a lc i dg (ct + 1) fo cells (upd H2 a (.dK (pn lc i dg (ct + 1) fo))) := ((I.up e1).up e2).put I.at0
  have K2 : ExB a H (upd H2 a (.dK (pn lc i dg (ct + 1) fo))) := ExB.trans (.of (Evl.Ex.trans e1 e2)) .upd
  generalize upd H2 a (.dK (pn lc i dg (ct + 1) fo)) = H3 at I2 K2
  have cellsD : ∀ {H'}, PenI a lc i dg (ct + 1) fo cells H' → Dp g.K H' (.ref lc) (.list (intD cells)) := fun J => DpL.dp ⟨lc, _, rfl, J.li, .of_intD _⟩
  refine ws_cut (fun σ' H' => ∃ (i dg fo : Int) (o : Option V), σ' = [some (.ref a), some (.int m), o, none, none] ∧ PenI a lc i dg (ct + 1) fo cells H' ∧ ExB a H H') ?_ ?_
  · refine w1_if (VW.vt (vw_and (u := decide (i < (cells.length : Int))) (vt_eq (vd_dget hu 0 rfl I2.ob (pn_digits ..) (.int dg)) vd_int) fun _ => vw_and1 ((vt_lt (vd_dget hu 0 rfl I2.ob (pn_at ..) (.int i)) (vd_len T.len (vd_dget hu 0 rfl I2.ob (pn_cells ..) (cellsD I2)))).to (by rw [intD, List.length_map])))) (fun ht H4 e4 => ?_) (fun ht H4 e4 => ?_)
    · have hi : i < (cells.length : Int) := by
        simp only [Bool.and_eq_true, decide_eq_true_eq] at ht
        exact ht.2
      have I4 := I2.up e4
      have h0 := I.at0
      obtain ⟨c, hc⟩ : ∃ c, atI (intD cells) i = some (.int c) := by
        obtain ⟨j, rfl⟩ : ∃ j : Nat, i = j := ⟨i.toNat, by omega⟩
        exact ⟨_, atI_nat (by unfold intD; rw [List.getElem?_map, List.getElem?_eq_getElem (by omega)]; rfl)⟩
      refine ws_setI 2 sc_draw.nd (vd_ixL (vd_dget hu 0 rfl I4.ob (pn_cells ..) (cellsD I4)) (vd_dget hu 0 rfl I4.ob (pn_at ..) (.int i)) hc) fun H5 e5 => ?_
      have I5 := I4.up e5
      refine ws_dput hu 0 rfl ((vd_add (vd_dget hu 0 rfl I5.ob (pn_at ..) (.int i)) vd_int).use fun v H6 e6 dv => ⟨_, (I5.up e6).ob, by show 5 < 100000; decide, fun H7 e7 => ?_⟩)
      obtain rfl := dv.int_v
      rw [pn_putAt]
      have I7 : PenI a lc (i + 1) dg (ct + 1) fo cells (upd H7 a (.dK (pn lc (i + 1) dg (ct + 1) fo))) := ((I5.up e6).up e7).put (by omega)
      have K7 : ExB a H (upd H7 a (.dK (pn lc (i + 1) dg (ct + 1) fo))) := K2.trans (ExB.trans (.of (Evl.Ex.trans e4 (Evl.Ex.trans e5 (Evl.Ex.trans e6 e7)))) .upd)
      generalize upd H7 a (.dK (pn lc (i + 1) dg (ct + 1) fo)) = H8 at I7 K7
      refine ws_if (vt_ge (vd_var 2 rfl (.int c)) (vd_pow vd_int vd_int cp18)) (fun ht H9 e9 => ?_) (fun ht H9 e9 => ?_)
      · have I9 := I7.up e9
        refine ws_dput hu 0 rfl ((vd_sub (vd_var 2 rfl (.int c)) (vd_pow vd_int vd_int cp18)).use fun v H10 e10 dv => ⟨_, (I9.up e10).ob, by show 5 < 100000; decide, fun H11 e11 => ?_⟩)
        obtain rfl := dv.int_v
        rw [pn_putDigits]
        exact ws_nil (ws_nil ⟨_, _, _, _, rfl, ((I9.up e10).up e11).put (by omega), K7.trans (ExB.trans (.of (Evl.Ex.trans e9 (Evl.Ex.trans e10 e11))) .upd)⟩)
      · have I9 := I7.up e9
        refine ws_dput hu 0 rfl ((vd_mod (vd_intI T.int (vd_add (vd_mul (vd_dget hu 0 rfl I9.ob (pn_fold ..) (.int fo)) vd_int (.inr ⟨by decide, by decide⟩)) (vd_var 2 rfl (.int c)))) vd_int (by decide)).use fun v H10 e10 dv => ⟨_, (I9.up e10).ob, by show 5 < 100000; decide, fun H11 e11 => ?_⟩)
        obtain rfl := dv.int_v
        rw [pn_putFold]
        exact ws_nil (ws_nil ⟨_, _, _, _, rfl, ((I9.up e10).up e11).put (by omega), K7.trans (ExB.trans (.of (Evl.Ex.trans e9 (Evl.Ex.trans e10 e11))) .upd)⟩)
    · exact ws_nil ⟨_, _, _, _, rfl, I2.up e4, K2.trans (.of e4)⟩
  · rintro σ' H4 ⟨i, dg, fo, o, rfl, I4, K4⟩
    have hlog : m.natAbs.log2 < 9000 := Nat.lt_trans ((Nat.log2_lt (n := m.natAbs) (k := 30) (by omega)).mpr (by omega)) (by decide)
    refine ws_if (vt_gt (vd_dget hu 0 rfl I4.ob (pn_digits ..) (.int dg)) vd_int) (fun ht H5 e5 => ?_) (fun ht H5 e5 => ?_)
    · have I5 := I4.up e5
      refine ws_setI 3 sc_draw.nd (vd_mod (vd_intI T.int (vd_dget hu 0 rfl I5.ob (pn_digits ..) (.int dg))) (vd_var 1 rfl (.int m)) hm0) fun H6 e6 => ?_
      have I6 := I5.up e6
      refine ws_dput hu 0 rfl ((vd_div (vd_dget hu 0 rfl I6.ob (pn_digits ..) (.int dg)) (vd_var 1 rfl (.int m)) ⟨hm0, hlog⟩).use fun v H7 e7 dv => ⟨_, (I6.up e7).ob, by show 5 < 100000; decide, fun H8 e8 => ?_⟩)
      obtain rfl := dv.int_v
      rw [pn_putDigits]
      have I8 : PenI a lc i (dg / m) (ct + 1) fo cells (upd H8 a (.dK (pn lc i (dg / m) (ct + 1) fo))) := ((I6.up e7).up e8).put I4.at0
      have K8 : ExB a H (upd H8 a (.dK (pn lc i (dg / m) (ct + 1) fo))) := K4.trans (ExB.trans (.of (Evl.Ex.trans e5 (Evl.Ex.trans e6 (Evl.Ex.trans e7 e8)))) .upd)
      exact ws_ret (we_var 3 rfl (k _ _ (Int.emod_nonneg _ (by omega)) (Int.emod_lt_of_pos _ hm0) ⟨_, _, _, _, _, I8⟩ K8))
    · have I5 := I4.up e5
      refine ws_nil (ws_setI 4 sc_draw.nd (vd_mod (vd_intI T.int (vd_add (vd_add (vd_mul (vd_dget hu 0 rfl I5.ob (pn_fold ..) (.int fo)) vd_int (.inr ⟨by decide, by decide⟩)) (vd_mul (vd_dget hu 0 rfl I5.ob (pn_count ..) (.int (ct + 1))) vd_int (.inr ⟨by decide, by decide⟩))) vd_int)) vd_int (by decide)) fun H6 e6 => ?_)
      generalize hb : (fo * 48271 + (ct + 1) * 7919 + 13) % 2147483647 = b
      have hb0 : -(2 ^ 64) < b ∧ b < 2 ^ 64 := by omega
      have I6 := I5.up e6
      refine ws_setI 4 sc_draw.nd (vd_mod (vd_intI T.int (vd_add (vd_add (vd_mul (vd_var 4 rfl (.int b)) (vd_var 4 rfl (.int b)) (.inr hb0)) (vd_mul vd_int (vd_var 4 rfl (.int b)) (.inr hb0))) (vd_dget hu 0 rfl I6.ob (pn_count ..) (.int (ct + 1))))) vd_int (by decide)) fun H7 e7 => ?_
      generalize hc : (b * b + 31 * b + (ct + 1)) % 2147483629 = b2
      have I7 := I6.up e7
      refine ws_dput hu 0 rfl ((vd_mod (vd_intI T.int (vd_add (vd_mul (vd_var 4 rfl (.int b2)) vd_int (.inr ⟨by decide, by decide⟩)) vd_int)) vd_int (by decide)).use fun v H8 e8 dv => ⟨_, (I7.up e8).ob, by show 5 < 100000; decide, fun H9 e9 => ?_⟩)
      obtain rfl := dv.int_v
      rw [pn_putFold]
      have I9 : PenI a lc i dg (ct + 1) ((b2 * 16807 + 7) % 2147483647) cells (upd H9 a (.dK (pn lc i dg (ct + 1) ((b2 * 16807 + 7) % 2147483647)))) := ((I7.up e8).up e9).put I4.at0
      have K9 : ExB a H (upd H9 a (.dK (pn lc i dg (ct + 1) ((b2 * 16807 + 7) % 2147483647)))) := K4.trans (ExB.trans (.of (Evl.Ex.trans e5 (Evl.Ex.trans e6 (Evl.Ex.trans e7 (Evl.Ex.trans e8 e9))))) .upd)
      refine ws_retD (vd_mod (vd_intI T.int (vd_div (vd_var 4 rfl (.int b2)) vd_int ⟨by decide, by decide +kernel⟩)) (vd_var 1 rfl (.int m)) hm0) fun w H10 e10 dw => ?_
      obtain rfl := dw.int_v
      exact k _ _ (Int.emod_nonneg _ (by omega)) (Int.emod_lt_of_pos _ hm0) ⟨_, _, _, _, _, I9.up e10⟩ (K9.trans (.of e10))
end
end G

/-! # D12: the law's arithmetic -/
namespace G
open PySem PySem.Spec PyProof.Rows L2
def fDiv : List PyData → Option PyData
  | [.int i, .int j] => some (.int (Nat.gcd i.natAbs j.natAbs : Nat))
  | _ => none
/-- top over bottom in lowest terms -/
def lowD (t b : Int) : PyData := if b = (Nat.gcd t.natAbs b.natAbs : Nat) then .int (t / (Nat.gcd t.natAbs b.natAbs : Nat)) else .tuple [.int (t / (Nat.gcd t.natAbs b.natAbs : Nat)), .int (b / (Nat.gcd t.natAbs b.natAbs : Nat))]
def fLow : List PyData → Option PyData
  | [.int t, .int b] => if 0 < b ∧ b.natAbs.log2 < 8000 then some (lowD t b) else none
  | _ => none
def fTimes : List PyData → Option PyData
  | [.int s, .int t] => if -(2 ^ 64) < s ∧ s < 2 ^ 64 then some (lowD (s * t) (1 * 1)) else none
  | [.int s, .tuple [.int t, .int b]] => if (-(2 ^ 64) < s ∧ s < 2 ^ 64) ∧ 0 < b ∧ b.natAbs.log2 < 8000 then some (lowD (s * t) (1 * b)) else none
  | _ => none
theorem gcd_step (a b : Nat) : Nat.gcd b (a % b) = Nat.gcd a b := by rw [Nat.gcd_comm b, ← Nat.gcd_rec, Nat.gcd_comm]
section
variable {g : Gd}
theorem sc_ldiv : FnScope ["one", "other"] ["one", "other"] (defScope s__law_divisor) := ⟨rfl, rfl, rfl, by decide +kernel, rfl, by decide +kernel, by decide +kernel⟩
theorem ok_ldiv (T : Nm g.mg) (F : FT g "_law_divisor" s__law_divisor) : Fd g "_law_divisor" ["one", "other"] 1 (spF g.K 2 fDiv) := by
  obtain ⟨f, fd, F, hm⟩ := F
  refine fd_of F hm sc_ldiv (fun _ _ _ _ h => h.1) (fun _ _ _ _ _ _ us hl => match us, hl with | [_, _], _ => rfl) (fun cdv A outer s H vs Q E hr h => ?_)
  obtain ⟨hl, ds, r, hd, hf, k⟩ := h
  obtain ⟨v, u, d, e, rfl, rfl, hv, hu⟩ := two_of hl hd
  obtain ⟨i, j, rfl, rfl⟩ : ∃ i j, d = .int i ∧ e = .int j := by
    match d, e, hf with
    | .int i, .int j, _ => exact ⟨i, j, rfl, rfl⟩
  obtain rfl := hv.int_v
  obtain rfl := hu.int_v
  obtain rfl := Option.some.inj (show some (PyData.int (Nat.gcd i.natAbs j.natAbs : Nat)) = some r from hf)
  refine ws_par 0 1 rfl sc_ldiv.nd ((vd_abs T.abs (vd_var 0 rfl (.int i))).use fun w H1 e1 dw => (vd_abs T.abs (vd_var 1 rfl (.int j))).use fun w2 H2 e2 dw2 => ?_)
  obtain rfl := dw.int_v
  obtain rfl := dw2.int_v
  refine ws_while (fun σ H' => ∃ a b : Nat, σ = [some (.int a), some (.int b)] ∧ Ex H H' ∧ Nat.gcd a b = Nat.gcd i.natAbs j.natAbs) (fun σ _ => (sI σ 1).toNat) passO ⟨_, _, rfl, Evl.Ex.trans e1 e2, rfl⟩ ?_
  rintro σ H3 ⟨a, b, rfl, e3, hg⟩
  refine (vt_ne (vd_var 1 rfl (.int (b : Int))) vd_int).use fun H4 e4 => ?_
  by_cases hb : b = 0
  · subst hb
    rw [if_neg (by simp)]
    rw [Nat.gcd_zero_right] at hg
    rw [← hg] at k
    exact ws_ret (we_var 0 rfl (k _ H4 (Evl.Ex.trans e3 e4) (.int (a : Int))))
  · rw [if_pos (by simp; omega)]
    refine ws_par 0 1 rfl sc_ldiv.nd (we_var 1 rfl ((vd_mod (vd_intI T.int (vd_var 0 rfl (.int (a : Int)))) (vd_var 1 rfl (.int (b : Int))) (by omega)).use fun w H5 e5 dw => ws_nil ?_))
    obtain rfl := dw.int_v
    refine ⟨⟨b, a % b, by rw [Int.natCast_emod]; rfl, Evl.Ex.trans e3 (Evl.Ex.trans e4 e5), by rw [gcd_step]; exact hg⟩, ?_⟩
    show ((a : Int) % (b : Int)).toNat < ((b : Int)).toNat
    have := Int.emod_lt_of_pos (a : Int) (show (0 : Int) < b by omega)
    omega
theorem log_of {n : Nat} (k : Nat) (h0 : n ≠ 0) (h : n < 2 ^ k) : n.log2 < k := (Nat.log2_lt h0).mpr h
theorem sc_llow : FnScope ["top", "bottom", "by"] ["top", "bottom"] (defScope s__law_low) := ⟨rfl, rfl, rfl, by decide +kernel, rfl, by decide +kernel, by decide +kernel⟩
theorem ok_llow (F : FT g "_law_low" s__law_low) (GD : Fd g "_law_divisor" ["one", "other"] 1 (spF g.K 2 fDiv)) : Fd g "_law_low" ["top", "bottom"] 2 (spF g.K 2 fLow) := by
  obtain ⟨f, fd, F, hm⟩ := F
  refine fd_of F hm sc_llow (fun _ _ _ _ h => h.1) (fun _ _ _ _ _ _ us hl => match us, hl with | [_, _], _ => rfl) (fun cdv A outer s H vs Q E hr h => ?_)
  obtain ⟨hl, ds, r, hd, hf, k⟩ := h
  obtain ⟨v, u, d, e, rfl, rfl, hv, hu⟩ := two_of hl hd
  obtain ⟨t, b, rfl, rfl⟩ : ∃ i j, d = .int i ∧ e = .int j := by
    match d, e, hf with
    | .int i, .int j, _ => exact ⟨i, j, rfl, rfl⟩
  obtain rfl := hv.int_v
  obtain rfl := hu.int_v
  have hf' : (if 0 < b ∧ b.natAbs.log2 < 8000 then some (lowD t b) else none) = some r := hf
  by_cases hc : 0 < b ∧ b.natAbs.log2 < 8000
  · rw [if_pos hc] at hf'
    obtain rfl := Option.some.inj hf'
    unfold lowD at k
    have hgp : 0 < Nat.gcd t.natAbs b.natAbs := Nat.gcd_pos_of_pos_right _ (by omega)
    have hgl : Nat.gcd t.natAbs b.natAbs ≤ b.natAbs := Nat.gcd_le_right _ (by omega)
    have hg2 : Nat.gcd t.natAbs b.natAbs < 2 ^ 8000 := Nat.lt_of_le_of_lt hgl ((Nat.log2_lt (by omega)).mp hc.2)
    have hw : ∀ i, CDivW i (Nat.gcd t.natAbs b.natAbs : Nat) := fun _ => ⟨by omega, Nat.lt_trans (log_of (n := Nat.gcd t.natAbs b.natAbs) 8000 (by omega) hg2) (by decide)⟩
    refine ws_setI 2 sc_llow.nd (vd_call (n := 2) (r := .int (Nat.gcd t.natAbs b.natAbs : Nat)) GD hr (va2 (vd_var 0 rfl (.int t)) (vd_var 1 rfl (.int b))) rfl rfl) fun H1 e1 => ?_
    generalize Nat.gcd t.natAbs b.natAbs = gg at *
    refine ws_if (vt_lt (vd_var 1 rfl (.int b)) vd_int) (fun ht _ _ => absurd (of_decide_eq_true ht) (by omega)) (fun ht H2 e2 => ws_nil ?_)
    refine ws_ret (we_if (vt_eq (vd_var 1 rfl (.int b)) (vd_var 2 rfl (.int (gg : Int)))) (fun hb H3 e3 => ?_) (fun hb H3 e3 => ?_))
    · rw [if_pos (of_decide_eq_true hb)] at k
      exact (vd_div (vd_var 0 rfl (.int t)) (vd_var 2 rfl (.int (gg : Int))) (hw _)).use fun w H4 e4 dw => k w H4 (Evl.Ex.trans e1 (Evl.Ex.trans e2 (Evl.Ex.trans e3 e4))) dw
    · rw [if_neg (of_decide_eq_false hb)] at k
      exact (vd_tup (va2 (vd_div (vd_var 0 rfl (.int t)) (vd_var 2 rfl (.int (gg : Int))) (hw _)) (vd_div (vd_var 1 rfl (.int b)) (vd_var 2 rfl (.int (gg : Int))) (hw _))) (show 2 ≤ 100000 by decide)).use fun w H4 e4 dw => k w H4 (Evl.Ex.trans e1 (Evl.Ex.trans e2 (Evl.Ex.trans e3 e4))) dw
  · rw [if_neg hc] at hf'
    cases hf'
/-- a number's pair -/
def pr : PyData → Option (Int × Int)
  | .int i => some (i, 1)
  | .tuple [.int t, .int b] => some (t, b)
  | _ => none
def fLPair : List PyData → Option PyData
  | [d] => (pr d).map fun p => .tuple [.int p.1, .int p.2]
  | _ => none
def fLSign : List PyData → Option PyData
  | [d] => (pr d).map fun p => .int (sgn p.1)
  | _ => none
def fWhole : List PyData → Option PyData
  | [d] => some (.bool (isInt d))
  | _ => none
theorem pr_cases {d : PyData} {p : Int × Int} (h : pr d = some p) : (∃ i, d = .int i ∧ p = (i, 1)) ∨ ∃ t b, d = .tuple [.int t, .int b] ∧ p = (t, b) := by
  unfold pr at h
  split at h
  · exact .inl ⟨_, rfl, (Option.some.inj h).symm⟩
  · exact .inr ⟨_, _, rfl, (Option.some.inj h).symm⟩
  · cases h
theorem sc_lpair : FnScope ["number"] ["number"] (defScope s__law_pair) := ⟨rfl, rfl, rfl, by decide +kernel, rfl, by decide +kernel, by decide +kernel⟩
theorem ok_lpair (T : Nm g.mg) (F : FT g "_law_pair" s__law_pair) : Fd g "_law_pair" ["number"] 1 (spF g.K 1 fLPair) := by
  obtain ⟨f, fd, F, hm⟩ := F
  refine fd_of F hm sc_lpair (fun _ _ _ _ h => h.1) (fun _ _ _ _ _ _ us hl => match us, hl with | [_], _ => rfl) (fun cdv A outer s H vs Q E hr h => ?_)
  obtain ⟨hl, ds, r, hd, hf, k⟩ := h
  obtain ⟨v, d, rfl, rfl, hv⟩ := one_of hl hd
  have hf' : (pr d).map (fun p => PyData.tuple [.int p.1, .int p.2]) = some r := hf
  obtain ⟨p, hp, rfl⟩ := Option.map_eq_some_iff.mp hf'
  refine ws_retD (vd_if (vt_val (vd_isi T.isinstance T.int bt_int (vd_var 0 rfl hv) (kit_int d))) (fun ht => ?_) (fun ht => ?_)) k
  · rcases pr_cases hp with ⟨i, rfl, rfl⟩ | ⟨t, b, rfl, rfl⟩
    · exact vd_tup (va2 (vd_var 0 rfl hv) vd_int) (show 2 ≤ 100000 by decide)
    · cases ht
  · rcases pr_cases hp with ⟨i, rfl, rfl⟩ | ⟨t, b, rfl, rfl⟩
    · cases ht
    · exact vd_var 0 rfl hv
theorem sc_lsign : FnScope ["number", "top"] ["number"] (defScope s__law_sign) := ⟨rfl, rfl, rfl, by decide +kernel, rfl, by decide +kernel, by decide +kernel⟩
theorem ok_lsign (T : Nm g.mg) (F : FT g "_law_sign" s__law_sign) (GP : Fd g "_law_pair" ["number"] 1 (spF g.K 1 fLPair)) : Fd g "_law_sign" ["number"] 2 (spF g.K 1 fLSign) := by
  obtain ⟨f, fd, F, hm⟩ := F
  refine fd_of F hm sc_lsign (fun _ _ _ _ h => h.1) (fun _ _ _ _ _ _ us hl => match us, hl with | [_], _ => rfl) (fun cdv A outer s H vs Q E hr h => ?_)
  obtain ⟨hl, ds, r, hd, hf, k⟩ := h
  obtain ⟨v, d, rfl, rfl, hv⟩ := one_of hl hd
  have hf' : (pr d).map (fun p => PyData.int (sgn p.1)) = some r := hf
  obtain ⟨p, hp, rfl⟩ := Option.map_eq_some_iff.mp hf'
  have hp2 : fLPair [d] = some (.tuple [.int p.1, .int p.2]) := by show (pr d).map _ = _; rw [hp]; rfl
  refine ws_setI 1 sc_lsign.nd (vd_ixT (vd_call (n := 1) GP hr (va1 (vd_var 0 rfl hv)) rfl hp2) vd_int (i := 0) rfl) fun H1 e1 => ?_
  refine ws_retD (vd_sub (vd_intB T.int (vd_gt (vd_var 1 rfl (.int p.1)) vd_int)) (vd_intB T.int (vd_lt (vd_var 1 rfl (.int p.1)) vd_int))) fun w H2 e2 dw => k w H2 (Evl.Ex.trans e1 e2) ?_
  have e : (if decide (0 < p.1) = true then (1 : Int) else 0) - (if decide (p.1 < 0) = true then (1 : Int) else 0) = sgn p.1 := by
    unfold sgn
    by_cases h1 : 0 < p.1
    · have h2 : ¬ p.1 < 0 := by omega
      simp [h1, h2]
    · by_cases h2 : p.1 < 0
      · simp [h1, h2]
      · simp [h1, h2]
  rw [← e]
  exact dw
theorem sc_ltimes : FnScope ["one", "other", "first", "second"] ["one", "other"] (defScope s__law_times) := ⟨rfl, rfl, rfl, by decide +kernel, rfl, by decide +kernel, by decide +kernel⟩
theorem st_ltimes {f : Addr} {cdv : Value} {A : Around} {outer : List Env} {s : Shared} {H : Hp} {Q : VK} {E : XK} (hr : Room 2 (A.deeper (envOfC "_law_times" (defScope s__law_times) s.heap.objs.size f cdv))) (GP : Fd g "_law_pair" ["number"] 1 (spF g.K 1 fLPair)) (GL : Fd g "_law_low" ["top", "bottom"] 2 (spF g.K 2 fLow)) {i t b : Int} {d : PyData} {v : V} (hv : Dp g.K H v d) (hp : pr d = some (t, b)) (hi : -(2 ^ 64) < i ∧ i < 2 ^ 64) (hb : 0 < b ∧ b.natAbs.log2 < 8000) (k : ∀ w H', Ex H H' → Dp g.K H' w (lowD (i * t) (1 * b)) → Q w H') :
    WS (cxOf (CXg g) g.P g.w g.K g.mg g.base ["one", "other", "first", "second"] "_law_times" (defScope s__law_times) f cdv A outer s H E) (defBody s__law_times) { nx := fun _ H' => Q .non H', rt := Q } [some (.int i), some v, none, none] H := by
  have hp1 : fLPair [.int i] = some (.tuple [.int i, .int 1]) := rfl
  have hp2 : fLPair [d] = some (.tuple [.int t, .int b]) := by show (pr d).map _ = _; rw [hp]; rfl
  refine ws_par 2 3 rfl sc_ltimes.nd ((vd_call (n := 1) GP (hr.mono (by omega)) (va1 (vd_var 0 rfl (.int i))) rfl hp1).use fun w1 H1 e1 d1 => (vd_call (n := 1) GP (hr.mono (by omega)) (va1 (vd_var 1 rfl (hv.up e1))) rfl hp2).use fun w2 H2 e2 d2 => ?_)
  have hlow : fLow [.int (i * t), .int (1 * b)] = some (lowD (i * t) (1 * b)) := if_pos ⟨by omega, by rw [Int.one_mul]; exact hb.2⟩
  exact ws_retD (vd_call (n := 2) GL hr (va2 (vd_mul (vd_ixT (vd_var 2 rfl (d1.up e2)) vd_int (i := 0) rfl) (vd_ixT (vd_var 3 rfl d2) vd_int (i := 0) rfl) (.inl hi)) (vd_mul (vd_ixT (vd_var 2 rfl (d1.up e2)) vd_int (i := 1) rfl) (vd_ixT (vd_var 3 rfl d2) vd_int (i := 1) rfl) (.inl ⟨by decide, by decide⟩))) rfl hlow) fun w H3 e3 dw => k w H3 (Evl.Ex.trans e1 (Evl.Ex.trans e2 e3)) dw
theorem ok_ltimes (F : FT g "_law_times" s__law_times) (GP : Fd g "_law_pair" ["number"] 1 (spF g.K 1 fLPair)) (GL : Fd g "_law_low" ["top", "bottom"] 2 (spF g.K 2 fLow)) : Fd g "_law_times" ["one", "other"] 3 (spF g.K 2 fTimes) := by
  obtain ⟨f, fd, F, hm⟩ := F
  refine fd_of F hm sc_ltimes (fun _ _ _ _ h => h.1) (fun _ _ _ _ _ _ us hl => match us, hl with | [_, _], _ => rfl) (fun cdv A outer s H vs Q E hr h => ?_)
  obtain ⟨hl, ds, r, hd, hf, k⟩ := h
  obtain ⟨v, u, d, e, rfl, rfl, hv, hu⟩ := two_of hl hd
  unfold fTimes at hf
  split at hf
  · rename_i s' t' heq
    obtain ⟨rfl, rfl⟩ : d = .int s' ∧ e = .int t' := by simpa using heq
    split at hf
    · rename_i hc
      obtain rfl := hv.int_v
      obtain rfl := Option.some.inj hf
      exact st_ltimes hr GP GL hu rfl hc ⟨by decide, by decide +kernel⟩ k
    · cases hf
  · rename_i s' t' b' heq
    obtain ⟨rfl, rfl⟩ : d = .int s' ∧ e = .tuple [.int t', .int b'] := by simpa using heq
    split at hf
    · rename_i hc
      obtain rfl := hv.int_v
      obtain rfl := Option.some.inj hf
      exact st_ltimes hr GP GL hu rfl hc.1 hc.2 k
    · cases hf
  · cases hf
theorem sc_lwhole : FnScope ["value"] ["value"] (defScope s__law_is_whole) := ⟨rfl, rfl, rfl, by decide +kernel, rfl, by decide +kernel, by decide +kernel⟩
theorem ok_lwhole (T : Nm g.mg) (F : FT g "_law_is_whole" s__law_is_whole) : Fd g "_law_is_whole" ["value"] 1 (spF g.K 1 fWhole) := by
  obtain ⟨f, fd, F, hm⟩ := F
  refine fd_of F hm sc_lwhole (fun _ _ _ _ h => h.1) (fun _ _ _ _ _ _ us hl => match us, hl with | [_], _ => rfl) (fun cdv A outer s H vs Q E hr h => ?_)
  obtain ⟨hl, ds, r, hd, hf, k⟩ := h
  obtain ⟨v, d, rfl, rfl, hv⟩ := one_of hl hd
  have er : r = .bool (isIntB d && !isBoolB d) := by
    have z : some (PyData.bool (isInt d)) = some r := hf
    rw [← Option.some.inj z]
    cases d <;> rfl
  subst er
  exact ws_retD (vd_and (vd_isi T.isinstance T.int bt_int (vd_var 0 rfl hv) (kit_int d)) fun _ => vd_one (vd_not (vd_isi T.isinstance T.bool bt_bool (vd_var 0 rfl hv) (kit_bool d)))) fun v H1 e1 dv => k v H1 e1 dv
theorem sc_lratio : FnScope ["value"] ["value"] (defScope s__law_is_ratio) := ⟨rfl, rfl, rfl, by decide +kernel, rfl, by decide +kernel, by decide +kernel⟩
theorem isRatio_no {ds : List PyData} (h : ds.length ≠ 2) : isRatio (.tuple ds) = false := by
  match ds with
  | [] => rfl
  | [_] => simp [isRatio]
  | [_, _] => exact absurd rfl h
  | _ :: _ :: _ :: _ => simp [isRatio]
theorem ok_lratio (T : Nm g.mg) (F : FT g "_law_is_ratio" s__law_is_ratio) (GW : Fd g "_law_is_whole" ["value"] 1 (spF g.K 1 fWhole)) (GD : Fd g "_law_divisor" ["one", "other"] 1 (spF g.K 2 fDiv)) : Fd g "_law_is_ratio" ["value"] 2 (spF g.K 1 fIsRatio) := by
  obtain ⟨f, fd, F, hm⟩ := F
  refine fd_of F hm sc_lratio (fun _ _ _ _ h => h.1) (fun _ _ _ _ _ _ us hl => match us, hl with | [_], _ => rfl) (fun cdv A outer s H vs Q E hr h => ?_)
  obtain ⟨hl, ds, r, hd, hf, k⟩ := h
  obtain ⟨v, d, rfl, rfl, hv⟩ := one_of hl hd
  have er : PyData.bool (isRatio d) = r := Option.some.inj (show some (PyData.bool (isRatio d)) = some r from hf)
  subst er
  refine ws_if (vt_val (vd_isi T.isinstance T.tuple bt_tuple (vd_var 0 rfl hv) (kit_tuple d))) (fun ht H1 e1 => ?_) (fun ht H1 e1 => ?_)
  · cases d with
    | tuple ds =>
      have hv1 := hv.up e1
      by_cases h2 : ds.length = 2
      · obtain ⟨x, y, rfl⟩ : ∃ x y, ds = [x, y] := by
          match ds, h2 with
          | [x, y], _ => exact ⟨x, y, rfl⟩
        refine ws_if (VW.vt (vw_or (vt_ne (vd_lenT T.len (vd_var 0 rfl hv1)) vd_int) fun _ => vw_or (vt_not (vt_val (vd_call (n := 1) (r := .bool (isInt x)) GW hr (va1 (vd_ixT (vd_var 0 rfl hv1) vd_int (i := 0) rfl)) rfl rfl))) fun _ => vw_or1 (vt_not (vt_val (vd_call (n := 1) (r := .bool (isInt y)) GW hr (va1 (vd_ixT (vd_var 0 rfl hv1) vd_int (i := 1) rfl)) rfl rfl))))) (fun hb H2 e2 => ?_) (fun hb H2 e2 => ?_)
        · refine ws_retD vd_bl fun v H3 e3 dv => k v H3 (Evl.Ex.trans e1 (Evl.Ex.trans e2 e3)) ?_
          have z : isRatio (.tuple [x, y]) = false := by
            cases x <;> cases y <;> first | rfl | (simp [isInt] at hb)
          rw [z]
          exact dv
        · refine ws_nil ?_
          cases x with
          | int t =>
            cases y with
            | int b =>
              refine ws_retD (vd_and (vd_gt (vd_ixT (vd_var 0 rfl (hv1.up e2)) vd_int (i := 1) rfl) vd_int) fun _ => vd_one (vd_eq (vd_call (n := 2) (r := .int (Nat.gcd t.natAbs b.natAbs : Nat)) GD hr (va2 (vd_ixT (vd_var 0 rfl (hv1.up e2)) vd_int (i := 0) rfl) (vd_ixT (vd_var 0 rfl (hv1.up e2)) vd_int (i := 1) rfl)) rfl rfl) vd_int)) fun v H3 e3 dv => k v H3 (Evl.Ex.trans e1 (Evl.Ex.trans e2 e3)) ?_
              have z : isRatio (.tuple [.int t, .int b]) = (decide ((1 : Int) < b) && decide (((Nat.gcd t.natAbs b.natAbs : Nat) : Int) = 1)) := by
                show (decide (1 < b) && decide (Nat.gcd t.natAbs b.natAbs = 1)) = _
                congr 1
                exact decide_eq_decide.mpr ⟨fun h => by rw [h]; rfl, fun h => by omega⟩
              rw [z]
              exact dv
            | _ => simp [isInt] at hb
          | _ => simp [isInt] at hb
      · refine ws_if (VW.vt (vw_or (u := true) (vt_ne (vd_lenT T.len (vd_var 0 rfl hv1)) vd_int) fun hn => ?_)) (fun hb H2 e2 => ?_) (fun hb H2 e2 => ?_)
        · have z : ¬ ((ds.length : Int) = 2) := by omega
          simp [z] at hn
        · refine ws_retD vd_bl fun v H3 e3 dv => k v H3 (Evl.Ex.trans e1 (Evl.Ex.trans e2 e3)) ?_
          rw [isRatio_no h2]
          exact dv
        · simp at hb
    | _ => exact Bool.noConfusion (show false = true from ht)
  · refine ws_nil (ws_retD (vd_call (n := 1) (r := .bool (isInt d)) GW hr (va1 (vd_var 0 rfl (hv.up e1))) rfl rfl) fun v H2 e2 dv => k v H2 (Evl.Ex.trans e1 e2) ?_)
    have ei : isRatio d = isInt d := by
      cases d with
      | tuple ds => exact Bool.noConfusion (show true = false from ht)
      | _ => rfl
    rw [ei]
    exact dv
end
end G

/-! # D13: what the law draws -/
namespace G
open PySem PySem.Spec PyProof.Rows L2
abbrev FDraw (g : Gd) : Prop := Fd g "_law_draw" ["pen", "many"] 1 spDraw
section
variable {X : Cx} {e : Expr} {σ : St} {H : Hp} {Q : VK} {pos p p2 : Pos} {x : Str}
theorem we_draw (GD : FDraw (Cxg X)) (hr : Room 1 X.A) (j : Nat) {a lc : Addr} {m : Int} (h0 : σ[j]? = some (some (.ref a))) (he : VD X e σ H (.int m)) (P : Pen a lc H) (h1 : 0 < m) (h2 : m ≤ 1000000000) (k : ∀ (v : Int) H', 0 ≤ v → v < m → Pen a lc H' → ExB a H H' → Q (.int v) H') (hN : X.N[j]? = some x := by rfl) (hv : Vis X.env.scope x := by first | exact Or.inl rfl | exact Or.inr (Or.inl rfl) | exact Or.inr (Or.inr rfl))
    (hd1 : (x == ("__debug__" : Str)) = false := by decide) (hd2 : (x == ("__classdict__" : Str)) = false := by decide) (hg : Gl X "_law_draw" := by rfl) (he1 : starEach [.Name x p2, e] X.env = (false, eval (.Name x p2) X.env) :: starEach [e] X.env := by rfl) (he2 : starEach [e] X.env = (false, eval e X.env) :: starEach [] X.env := by rfl) (hpl : (backTo pos (starEach [e] X.env)).any (·.1) = false := by rfl) : WE X (.Call (.Name "_law_draw" p) [.Name x p2, e] [] pos) σ H Q :=
  we_call0 GD hr (wa_cons (we_var j h0 (wa_cons (he.use fun w H1 e1 dw => wa_nil ⟨a, lc, m, by rw [dw.int_v], P.up e1, h1, h2, fun v H' a1 a2 a3 a4 => k v H' a1 a2 a3 (ExB.trans (.of e1) a4)⟩) he2) hN hv hd1 hd2) he1) hg (by decide) he1 hpl
/-- an op with an int on the left that is known, the right one drawn -/
theorem we_addI {a b : Expr} {i : Int} (ha : VD X a σ H (.int i)) (hb : ∀ H1, Ex H H1 → WE X b σ H1 fun u H2 => ∃ j, u = .int j ∧ Q (.int (i + j)) H2) : WE X (.BinOp a .Add b pos) σ H Q := we_op op_add (ha.use fun v H1 e1 dv => (hb H1 e1).mono fun u H2 ⟨j, eu, q⟩ => ⟨i, j, dv.int_v, eu, q⟩)
theorem we_mulI {a b : Expr} {i : Int} (hi : -(2 ^ 64) < i ∧ i < 2 ^ 64) (ha : VD X a σ H (.int i)) (hb : ∀ H1, Ex H H1 → WE X b σ H1 fun u H2 => ∃ j, u = .int j ∧ Q (.int (i * j)) H2) : WE X (.BinOp a .Mult b pos) σ H Q := we_op op_mul (ha.use fun v H1 e1 dv => (hb H1 e1).mono fun u H2 ⟨j, eu, q⟩ => ⟨i, j, dv.int_v, eu, .inl hi, q⟩)
theorem we_subR {a b : Expr} {j : Int} (ha : WE X a σ H fun u H1 => ∃ i, u = .int i ∧ VD X b σ H1 (.int j) ∧ ∀ H2, Ex H1 H2 → Q (.int (i - j)) H2) : WE X (.BinOp a .Sub b pos) σ H Q := we_op op_sub (ha.mono fun v H1 ⟨i, ev, hb, k⟩ => hb.use fun u H2 e2 du => ⟨i, j, ev, du.int_v, k H2 e2⟩)
theorem we_subI {a b : Expr} {i : Int} (ha : VD X a σ H (.int i)) (hb : ∀ H1, Ex H H1 → WE X b σ H1 fun u H2 => ∃ j, u = .int j ∧ Q (.int (i - j)) H2) : WE X (.BinOp a .Sub b pos) σ H Q := we_op op_sub (ha.use fun v H1 e1 dv => (hb H1 e1).mono fun u H2 ⟨j, eu, q⟩ => ⟨i, j, dv.int_v, eu, q⟩)
end
theorem vd_lenV {X : Cx} {σ : St} {H : Hp} {pos p q : Pos} {x : Str} (hm : X.mg "len" = none) (j : Nat) {l : Addr} {xs : List V} (h : σ[j]? = some (some (.ref l))) (hl : H l = some (.lst xs)) (hN : X.N[j]? = some x := by rfl) (hv : Vis X.env.scope x := by first | exact Or.inl rfl | exact Or.inr (Or.inl rfl) | exact Or.inr (Or.inr rfl))
    (hd1 : (x == ("__debug__" : Str)) = false := by decide) (hd2 : (x == ("__classdict__" : Str)) = false := by decide) (hg : Gl X "len" := by rfl) (he : starEach [.Name x q] X.env = (false, eval (.Name x q) X.env) :: starEach [] X.env := by rfl) (hpl : (backTo pos (starEach [] X.env)).any (·.1) = false := by rfl) : VD X (.Call (.Name "len" p) [.Name x q] [] pos) σ H (.int xs.length) := fun H1 e1 =>
  we_callB call_len_seq hm PySem.boot_len (wa_cons (we_var j h (wa_nil ⟨l, xs, rfl, .inl (SqL.of (e1 _ _ hl)), Evl.Ex.refl H1, .int _⟩) hN hv hd1 hd2) he) hg (by decide) (by decide) he hpl
/-! ### wide numbers -/
def spWide : Sp := fun vs H Q _ => ∃ (a lc : Addr) (n : Nat), vs = [.ref a, .int n] ∧ Pen a lc H ∧ n ≤ 40 ∧ ∀ (v : Int) H', 0 ≤ v → v < 10 ^ n → Pen a lc H' → ExB a H H' → Q (.int v) H'
section
variable {g : Gd}
theorem cp6 : CPowW 10 6 := ⟨by decide, by decide +kernel⟩
theorem sc_wide : FnScope ["pen", "figures", "found", "top", "lap"] ["pen", "figures"] (defScope s__law_wide) := ⟨rfl, rfl, rfl, by decide +kernel, rfl, by decide +kernel, by decide +kernel⟩
theorem ok_wide (T : Nm g.mg) (F : FT g "_law_wide" s__law_wide) (GD : FDraw g) : Fd g "_law_wide" ["pen", "figures"] 2 spWide := by
  obtain ⟨f, fd, F, hm⟩ := F
  refine fd_of F hm sc_wide (fun _ _ _ _ ⟨a, lc, n, e, _⟩ => by rw [e] <;> rfl) (fun _ _ _ _ _ _ us hl => match us, hl with | [_, _], _ => rfl) (fun cdv A outer s H vs Q E hr h => ?_)
  obtain ⟨a, lc, n, rfl, P, hn, k⟩ := h
  refine ws_unp2 2 3 rfl sc_wide.nd ((vd_tup (va2 (vd_int (i := 0)) (vd_int (i := 1))) (show 2 ≤ 100000 by decide)).use fun w H1 e12 dw => ?_)
  obtain ⟨l, u1, u2, rfl, hs, d1, d2⟩ := tup2_v dw
  obtain rfl := d1.int_v
  obtain rfl := d2.int_v
  refine ⟨l, _, _, rfl, hs, ?_⟩
  refine ws_forR (n := ((n : Int) + 5) / 6) 4 (fun _ σ H' => ∃ (m : Int) (o : Option V), σ = [some (.ref a), some (.int n), some (.int m), some (.int 1), o] ∧ Pen a lc H' ∧ ExB a H H') passO rfl sc_wide.nd T.range ((vd_div (vd_add (vd_var 1 rfl (.int (n : Int))) vd_int) vd_int ⟨by decide, by decide +kernel⟩).use fun w H3 e3 dw => ⟨dw.int_v, 0, none, rfl, P.up (Evl.Ex.trans e12 e3), .of (Evl.Ex.trans e12 e3)⟩) (by omega) ?_ ?_
  · rintro t σ H3 ht ⟨m, o, rfl, P3, K3⟩
    refine ws_set 2 sc_wide.nd (we_addI (vd_mul (vd_var 2 rfl (.int m)) (vd_pow vd_int vd_int cp6) (.inr ⟨by decide, by decide⟩)) fun H4 e4 => we_draw GD hr 0 rfl (vd_pow vd_int vd_int cp6) (P3.up e4) (by decide) (by decide) fun v H5 _ _ P5 K5 => ⟨v, rfl, ws_nil ⟨_, _, rfl, P5, K3.trans (ExB.trans (.of e4) K5)⟩⟩)
  · rintro σ H3 ⟨m, o, rfl, P3, K3⟩
    refine ws_forR (n := (n : Int)) 4 (fun t σ H' => ∃ (o : Option V), σ = [some (.ref a), some (.int n), some (.int m), some (.int (10 ^ t)), o] ∧ Pen a lc H' ∧ ExB a H H') passO rfl sc_wide.nd T.range (we_var 1 rfl ⟨rfl, o, rfl, P3, K3⟩) (by omega) ?_ ?_
    · rintro t σ H4 ht ⟨o, rfl, P4, K4⟩
      refine ws_setI 3 sc_wide.nd (vd_mul (vd_var 3 rfl (.int (10 ^ t))) vd_int (.inr ⟨by decide, by decide⟩)) fun H5 e5 => ws_nil ⟨_, by rw [Int.pow_succ]; rfl, P4.up e5, K4.trans (.of e5)⟩
    · rintro σ H4 ⟨o, rfl, P4, K4⟩
      have hp : (0 : Int) < 10 ^ n := Int.pow_pos (by decide)
      refine ws_retD (vd_mod (vd_intI T.int (vd_var 2 rfl (.int m))) (vd_var 3 rfl (.int (10 ^ n))) hp) fun w H5 e5 dw => ?_
      obtain rfl := dw.int_v
      exact k _ H5 (Int.emod_nonneg _ (by omega)) (Int.emod_lt_of_pos _ hp) (P4.up e5) (K4.trans (.of e5))
end
/-! ### numbers -/
def NumOk (v : PyData) : Prop := (∃ i : Int, v = .int i ∧ i.natAbs < 10 ^ 40) ∨ ∃ t b : Int, v = .tuple [.int t, .int b] ∧ isRatio v = true ∧ t.natAbs < 10 ^ 40 ∧ b.natAbs < 10 ^ 40
theorem NumOk.imm {v : PyData} (h : NumOk v) : imm v = true := by
  rcases h with ⟨i, rfl, _⟩ | ⟨t, b, rfl, _⟩ <;> rfl
theorem abs_lt {x : Int} (h0 : 0 ≤ x) (h1 : x < 10 ^ 40) : x.natAbs < 10 ^ 40 := by
  have e : (10 : Int) ^ 40 = ((10 ^ 40 : Nat) : Int) := by decide +kernel
  rw [e] at h1
  omega
theorem lowD_ok {t b : Int} (ht : t.natAbs < 10 ^ 40) (hb : 0 < b) (hb2 : b.natAbs < 10 ^ 40) : NumOk (lowD t b) := by
  unfold lowD
  have hgp : 0 < Nat.gcd t.natAbs b.natAbs := Nat.gcd_pos_of_pos_right _ (by omega)
  obtain ⟨x, hx⟩ := Nat.gcd_dvd_left t.natAbs b.natAbs
  obtain ⟨y, hy⟩ := Nat.gcd_dvd_right t.natAbs b.natAbs
  have hcop := Nat.gcd_div_gcd_div_gcd_of_pos_right (m := b.natAbs) (n := t.natAbs) (by omega)
  have h1 : (t / ((Nat.gcd t.natAbs b.natAbs : Nat) : Int)).natAbs = t.natAbs / Nat.gcd t.natAbs b.natAbs := by
    have hd : ((Nat.gcd t.natAbs b.natAbs : Nat) : Int) ∣ t := Int.ofNat_dvd_left.mpr (Nat.gcd_dvd_left _ _)
    rw [Int.natAbs_ediv_of_dvd hd]
    rfl
  have h2 : (b / ((Nat.gcd t.natAbs b.natAbs : Nat) : Int)).natAbs = b.natAbs / Nat.gcd t.natAbs b.natAbs := by
    have hd : ((Nat.gcd t.natAbs b.natAbs : Nat) : Int) ∣ b := Int.ofNat_dvd_left.mpr (Nat.gcd_dvd_right _ _)
    rw [Int.natAbs_ediv_of_dvd hd]
    rfl
  have l1 : (t / ((Nat.gcd t.natAbs b.natAbs : Nat) : Int)).natAbs < 10 ^ 40 := by rw [h1]; exact Nat.lt_of_le_of_lt (Nat.div_le_self _ _) ht
  have l2 : (b / ((Nat.gcd t.natAbs b.natAbs : Nat) : Int)).natAbs < 10 ^ 40 := by rw [h2]; exact Nat.lt_of_le_of_lt (Nat.div_le_self _ _) hb2
  split
  · exact .inl ⟨_, rfl, l1⟩
  · rename_i hne
    refine .inr ⟨_, _, rfl, ?_, l1, l2⟩
    show (decide (1 < b / ((Nat.gcd t.natAbs b.natAbs : Nat) : Int)) && decide (Nat.gcd (t / ((Nat.gcd t.natAbs b.natAbs : Nat) : Int)).natAbs (b / ((Nat.gcd t.natAbs b.natAbs : Nat) : Int)).natAbs = 1)) = true
    rw [h1, h2, Bool.and_eq_true, decide_eq_true_eq, decide_eq_true_eq]
    refine ⟨?_, hcop⟩
    generalize hg : Nat.gcd t.natAbs b.natAbs = gg at *
    have hb3 : b = (gg : Int) * (y : Int) := by
      have : (b.natAbs : Int) = ((gg * y : Nat) : Int) := by rw [← hy]
      rw [Int.natCast_mul] at this
      omega
    rw [hb3, Int.mul_ediv_cancel_left _ (by omega)]
    rcases Nat.lt_or_ge 1 y with h | h
    · omega
    · have hy0 : y = 0 ∨ y = 1 := by omega
      rcases hy0 with rfl | rfl
      · rw [hb3] at hb; simp at hb
      · rw [hb3] at hne; simp at hne
def spNumber (K : PySem.W.Frag) : Sp := fun vs H Q _ => ∃ (a lc : Addr) (n : Int), vs = [.ref a, .int n] ∧ Pen a lc H ∧ ∀ v w H', NumOk v → Dp K H' w v → Pen a lc H' → ExB a H H' → Q w H'
def spPick : Sp := fun vs H Q _ => ∃ (a lc l : Addr) (xs : List V), vs = [.ref a, .ref l] ∧ Pen a lc H ∧ H l = some (.lst xs) ∧ 0 < xs.length ∧ xs.length ≤ 100000 ∧ ∀ (j : Nat) x H', xs[j]? = some x → Pen a lc H' → ExB a H H' → Q x H'
section
variable {g : Gd}
theorem sc_number : FnScope ["pen", "size"] ["pen", "size"] (defScope s__law_number) := ⟨rfl, rfl, rfl, by decide +kernel, rfl, by decide +kernel, by decide +kernel⟩
theorem log8 {b : Int} (h0 : 0 < b) (h : b.natAbs < 10 ^ 40) : b.natAbs.log2 < 8000 := Nat.lt_trans (log_of 200 (by omega) (Nat.lt_trans h (by decide +kernel))) (by decide)
theorem ok_number (F : FT g "_law_number" s__law_number) (GD : FDraw g) (GW : Fd g "_law_wide" ["pen", "figures"] 2 spWide) (GL : Fd g "_law_low" ["top", "bottom"] 2 (spF g.K 2 fLow)) : Fd g "_law_number" ["pen", "size"] 3 (spNumber g.K) := by
  obtain ⟨f, fd, F, hm⟩ := F
  refine fd_of F hm sc_number (fun _ _ _ _ ⟨a, lc, n, e, _⟩ => by rw [e] <;> rfl) (fun _ _ _ _ _ _ us hl => match us, hl with | [_, _], _ => rfl) (fun cdv A outer s H vs Q E hr h => ?_)
  obtain ⟨a, lc, n, rfl, P, k⟩ := h
  have hr1 : Room 1 (A.deeper (envOfC "_law_number" (defScope s__law_number) s.heap.objs.size f cdv)) := hr.mono (by omega)
  have low : ∀ {t b : Int} {H1 H2 : Hp}, ExB a H H1 → Pen a lc H1 → t.natAbs < 10 ^ 40 → 0 < b → b.natAbs < 10 ^ 40 → ∃ ds r, DpAll g.K H1 [V.int t, V.int b] ds ∧ fLow ds = some r ∧ ∀ v H', Ex H1 H' → Dp g.K H' v r → Q v H' := fun {t b H1 H2} K1 P1 h1 h2 h3 =>
    ⟨[.int t, .int b], lowD t b, .cons (.int t) (.one (.int b)), if_pos ⟨h2, log8 h2 h3⟩, fun v H' e D => k _ v H' (lowD_ok h1 h2 h3) D (P1.up e) (K1.trans (.of e))⟩
  refine ws_if (vt_eq (vd_var 1 rfl (.int n)) vd_int) (fun ht H1 e1 => ?_) (fun ht H1 e1 => ws_nil ?_)
  · refine ws_ret (we_subR (we_draw GD hr1 0 rfl vd_int (P.up e1) (by decide) (by decide) fun v H2 h0 h7 P2 K2 => ⟨v, rfl, vd_int, fun H3 e3 => k (.int (v - 3)) _ H3 (.inl ⟨_, rfl, ?_⟩) (.int _) (P2.up e3) ((ExB.trans (.of e1) K2).trans (.of e3))⟩))
    exact Nat.lt_trans (show (v - 3).natAbs < 10 by omega) (by decide +kernel)
  · refine ws_if (vt_eq (vd_var 1 rfl (.int n)) vd_int) (fun ht H2 e2 => ?_) (fun ht H2 e2 => ws_nil ?_)
    · have e12 := Evl.Ex.trans e1 e2
      refine ws_ret (we_call0 GL (hr.mono (by omega)) (wa_cons (we_subR (we_draw GD hr1 0 rfl vd_int (P.up e12) (by decide) (by decide) fun v H3 h0 h7 P3 K3 => ⟨v, rfl, vd_int, fun H4 e4 => wa_cons (we_addI vd_int fun H5 e5 => we_draw GD hr1 0 rfl vd_int (P3.up (Evl.Ex.trans e4 e5)) (by decide) (by decide) fun u H6 g0 g6 P6 K6 => ⟨u, rfl, wa_nil ⟨rfl, ?_⟩⟩)⟩))))
      exact low (H2 := H) ((ExB.trans (.of e12) K3).trans (ExB.trans (.of (Evl.Ex.trans e4 e5)) K6)) P6 (Nat.lt_trans (show (v - 9).natAbs < 100 by omega) (by decide +kernel)) (by omega) (Nat.lt_trans (show (1 + u).natAbs < 100 by omega) (by decide +kernel))
    · refine ws_if (vt_eq (vd_var 1 rfl (.int n)) vd_int) (fun ht H3 e3 => ?_) (fun ht H3 e3 => ws_nil ?_)
      · have e13 := Evl.Ex.trans e1 (Evl.Ex.trans e2 e3)
        refine ws_ret (we_call0 GL (hr.mono (by omega)) (wa_cons (we_subR (we_draw GD hr1 0 rfl vd_int (P.up e13) (by decide) (by decide) fun v H4 h0 h7 P4 K4 => ⟨v, rfl, vd_int, fun H5 e5 => wa_cons (we_addI vd_int fun H6 e6 => we_draw GD hr1 0 rfl vd_int (P4.up (Evl.Ex.trans e5 e6)) (by decide) (by decide) fun u H7 g0 g6 P7 K7 => ⟨u, rfl, wa_nil ⟨rfl, ?_⟩⟩)⟩))))
        exact low (H2 := H) ((ExB.trans (.of e13) K4).trans (ExB.trans (.of (Evl.Ex.trans e5 e6)) K7)) P7 (Nat.lt_trans (show (v - 999).natAbs < 10000 by omega) (by decide +kernel)) (by omega) (Nat.lt_trans (show (1 + u).natAbs < 100 by omega) (by decide +kernel))
      · have e13 := Evl.Ex.trans e1 (Evl.Ex.trans e2 e3)
        have wide : ∀ {H1 : Hp} {a1 a2 : Pos} {n : Int} (m : Nat), True := fun _ => trivial
        refine ws_ret (we_call0 GL (hr.mono (by omega)) (wa_cons ?_))
        refine we_op op_mul (we_subI vd_int fun H4 e4 => we_op op_mul (vd_int.use fun w5 H5 e5 d5 => we_draw GD hr1 0 rfl vd_int (P.up (Evl.Ex.trans e13 (Evl.Ex.trans e4 e5))) (by decide) (by decide) fun u H6 u0 u2 P6 K6 => ⟨2, u, d5.int_v, rfl, .inl ⟨by decide, by decide⟩, 2 * u, rfl, ?_⟩))
        refine we_call0 GW (hr.mono (by omega)) (wa_cons (we_var 0 rfl (wa_cons (vd_int.use fun w7 H7 e7 d7 => wa_nil ⟨a, lc, 40, by rw [d7.int_v]; rfl, P6.up e7, by decide, fun x H8 x0 x1 P8 K8 => ⟨1 - 2 * u, x, rfl, rfl, .inl ⟨by omega, by omega⟩, ?_⟩⟩))))
        refine wa_cons (we_addI vd_int fun H9 e9 => we_call0 GW (hr.mono (by omega)) (wa_cons (we_var 0 rfl (wa_cons (vd_int.use fun w10 H10 e10 d10 => wa_nil ⟨a, lc, 39, by rw [d10.int_v]; rfl, P8.up (Evl.Ex.trans e9 e10), by decide, fun y H11 y0 y1 P11 K11 => ⟨y, rfl, wa_nil ⟨rfl, ?_⟩⟩⟩)))))
        have KK : ExB a H H11 := ExB.trans (.of (Evl.Ex.trans e13 (Evl.Ex.trans e4 e5))) (ExB.trans K6 (ExB.trans (.of e7) (ExB.trans K8 (ExB.trans (.of (Evl.Ex.trans e9 e10)) K11))))
        have b1 : ((1 - 2 * u) * x).natAbs < 10 ^ 40 := by
          rw [Int.natAbs_mul]
          have : (1 - 2 * u).natAbs = 1 := by omega
          rw [this, Nat.one_mul]
          exact abs_lt x0 x1
        have b2 : (1 + y).natAbs < 10 ^ 40 := by
          have : (10 : Int) ^ 39 < 10 ^ 40 := by decide +kernel
          exact abs_lt (by omega) (by omega)
        exact low (H2 := H) KK P11 b1 (by omega) b2
theorem sc_pick : FnScope ["pen", "some"] ["pen", "some"] (defScope s__law_pick) := ⟨rfl, rfl, rfl, by decide +kernel, rfl, by decide +kernel, by decide +kernel⟩
theorem ok_pick (T : Nm g.mg) (F : FT g "_law_pick" s__law_pick) (GD : FDraw g) : Fd g "_law_pick" ["pen", "some"] 2 spPick := by
  obtain ⟨f, fd, F, hm⟩ := F
  refine fd_of F hm sc_pick (fun _ _ _ _ ⟨a, lc, l, xs, e, _⟩ => by rw [e] <;> rfl) (fun _ _ _ _ _ _ us hl => match us, hl with | [_, _], _ => rfl) (fun cdv A outer s H vs Q E hr h => ?_)
  obtain ⟨a, lc, l, xs, rfl, P, hl, h0, h1, k⟩ := h
  refine ws_ret (we_ix ix_list (we_var 1 rfl (we_draw GD hr 0 rfl (vd_lenV T.len 1 rfl hl) P (by omega) (by omega) fun v H1 v0 v1 P1 K1 => ?_)))
  obtain ⟨j, rfl⟩ : ∃ j : Nat, v = j := ⟨v.toNat, by omega⟩
  have hj : j < xs.length := by omega
  refine ⟨l, xs, (j : Int), xs[j], rfl, rfl, SqL.of (K1.lst_pen P hl), atI_nat (List.getElem?_eq_getElem hj), k j _ H1 (List.getElem?_eq_getElem hj) P1 K1⟩
end
end G

/-! # D14: values drawn; the pen made -/
namespace G
open PySem PySem.Spec PyProof.Rows L2
section
variable {X : Cx} {e elt iter a b c : Expr} {σ : St} {H : Hp} {pos p : Pos} {x : Str} {scope : Scope} {ifs : List Expr} {Q : VK}
/-- a list over a range, its items made by what changes things -/
theorem we_lcRW (N : List Str) (sc : Scope) (j : Nat) {pr pc : Pos} (hm : X.mg "range" = none) (h : WE X a σ H fun v H1 => ∃ n : Int, v = .int n ∧ 0 ≤ n ∧ n ≤ 40000 ∧ ∀ D, H1 D = none → ∃ Pv : Nat → Hp → Prop, Pv 0 (upd H1 D (.lst [])) ∧ (∀ (i : Nat) H', i < n.toNat → Pv i H' → ∀ s H0 C cl fp, WE (Blk X s H0 scope C cl fp) elt ((wipe σ [j]).set j (some (V.int (i : Int)))) H' fun y H4 => ∃ acc, H4 D = some (.lst acc) ∧ acc.length < sizeLine ∧ Pv (i + 1) (upd H4 D (.lst (acc ++ [y])))) ∧ ∀ H', Pv n.toNat H' → Q (.ref D) H') (hc : X.calm = true) (hN : X.N.Nodup) (hj : X.N[j]? = some x := by rfl) (hx : ∀ C cl, Loc (compEnvC scope cl C X.env).scope x := by first | exact fun _ _ => Or.inl rfl | exact fun _ _ => Or.inr rfl) (hfx : ∀ s H0 C cl fp, (Blk X s H0 scope C cl fp).fn x = true ∨ (compEnvC scope cl C X.env).scope.names.lookup x = some .local := by first | exact fun _ _ _ _ _ => .inl rfl | exact fun _ _ _ _ _ => .inr rfl) (hNN : X.N = N := by rfl) (hsc : X.env.scope = sc := by rfl) (hb : blkC N sc scope [(x, j)] = true := by decide +kernel) (hw : ∀ v, wipe ((wipe σ [j]).set j (some v)) [j] = wipe σ [j] := by intro _; rfl) (hg : Gl X "range" := by rfl) (hea : starEach [a] X.env = [(false, eval a X.env)] := by rfl) (hea2 : starEach [a] X.env = (false, eval a X.env) :: starEach [] X.env := by rfl) (hs : ∀ z, foldedSetIterable (.Call (.Name "range" pr) [a] [] pc) X.env z = pure z := by intro _; rfl) :
    WE X (.ListComp elt [⟨.Name x p, (.Call (.Name "range" pr) [a] [] pc), [], 0⟩] scope pos) σ H Q := by
  have ok : BlkOk X.N X.env.scope scope [(x, j)] := blkOk_by (by rw [hNN, hsc]; exact hb)
  refine .of (pe_lc (own := [(x, j)]) (g := gName j) (te := fun σ H Q => ∀ s H0 C cl fp, WE (Blk X s H0 scope C cl fp) elt σ H Q) hc hN (pi_range1 hg hm WA.pa hea) ok (fun s H1 C cl fp => pg_name hN hj (hx C cl) (hfx s H1 C cl fp)) (fun s H1 C cl fp => pts_nil) (fun s H1 C cl fp => ⟨fun pins s' σ H Q I z => z _ _ _ _ _ pins s' I⟩) hs) ?_
  refine wa_cons (h.mono fun v H1 ⟨n, ev, h0, h1, k⟩ => wa_nil ⟨n, by rw [ev], by omega, by omega, fun D hD => ?_⟩) hea2
  obtain ⟨Pv, p0, ps, pd⟩ := k D hD
  refine lc_range (lo := 0) (n := n.toNat) (g := gName j) (tt := tYes) (te := fun σ H Q => ∀ s H0 C cl fp, WE (Blk X s H0 scope C cl fp) elt σ H Q) (vs := [j]) (σ := σ) (Qd := fun H2 => Q (.ref D) H2) Pv p0 (fun i H' hi p => ⟨hw _, iteT (B := Pv (i + 1) H') fun s H0 C cl fp => ?_⟩) pd
  rw [Int.zero_add]
  exact ps i H' hi p s H0 C cl fp
/-- tuple(e), e a list, made by what changes things -/
theorem we_tupleL (hm : X.mg "tuple" = none) (h : WE X e σ H fun v H1 => ∃ l xs, v = .ref l ∧ H1 l = some (.lst xs) ∧ ∀ n, H1 n = none → Q (.ref n) (upd H1 n (.tup xs))) (hg : Gl X "tuple" := by rfl) (he : starEach [e] X.env = (false, eval e X.env) :: starEach [] X.env := by rfl) (hpl : (backTo pos (starEach [] X.env)).any (·.1) = false := by rfl) : WE X (.Call (.Name "tuple" p) [e] [] pos) σ H Q :=
  we_callT call_tuple_of hm (by decide +kernel) (wa_cons (h.mono fun v H1 ⟨l, xs, ev, hl, k⟩ => wa_nil ⟨l, xs, by rw [ev], .inl ⟨SqL.of hl, k⟩⟩) he) hg (by decide) (by decide) he hpl
end
/-- a value that may be drawn -/
def DVal : Nat → PyData → Prop
  | 0, v => NumOk v
  | n + 1, v => NumOk v ∨ ∃ ds, v = .tuple ds ∧ ds.length ≤ 3 ∧ ∀ d ∈ ds, DVal n d
theorem DVal.imm : ∀ (n : Nat) {v : PyData}, DVal n v → imm v = true
  | 0, _, h => NumOk.imm h
  | n + 1, _, h => by
    rcases h with h | ⟨ds, rfl, _, h⟩
    · exact NumOk.imm h
    · show immAll ds = true
      exact immAll_mem fun d hd => DVal.imm n (h d hd)
def spDrawn (K : PySem.W.Frag) (n : Nat) : Sp := fun vs H Q _ => ∃ a lc : Addr, vs = [.ref a, .int n] ∧ Pen a lc H ∧ ∀ v w H', DVal n v → Dp K H' w v → Pen a lc H' → ExB a H H' → Q w H'
section
variable {g : Gd}
theorem sc_drawn : FnScope ["pen", "deep", "way", "lap"] ["pen", "deep"] (defScope s__law_drawn_value) := ⟨rfl, rfl, rfl, by decide +kernel, rfl, by decide +kernel, by decide +kernel⟩
theorem Pen.ne {a lc D : Addr} {H : Hp} (P : Pen a lc H) (h : H D = none) : D ≠ a ∧ D ≠ lc := by
  obtain ⟨i, dg, ct, fo, cells, I⟩ := P
  exact ⟨fun e => (by rw [e, I.ob] at h; cases h), fun e => (by rw [e, I.li] at h; cases h)⟩
theorem Pen.put {a lc D : Addr} {H : Hp} {o : HO} (P : Pen a lc H) (h : D ≠ a ∧ D ≠ lc) : Pen a lc (upd H D o) := by
  obtain ⟨i, dg, ct, fo, cells, I⟩ := P
  exact ⟨i, dg, ct, fo, cells, by rw [upd_ne h.1.symm]; exact I.ob, by rw [upd_ne h.2.symm]; exact I.li, I.at0, I.few⟩
theorem exb_put {a D : Addr} {H H' : Hp} {o : HO} (e : ExB a H H') (h : H D = none) : ExB a H (upd H' D o) := fun b u n hb => by rw [upd_ne (fun q => by rw [q, h] at hb; cases hb)]; exact e b u n hb
theorem st_drawn (T : Nm g.mg) (F : FT g "_law_drawn_value" s__law_drawn_value) (GD : FDraw g) (GN : Fd g "_law_number" ["pen", "size"] 3 (spNumber g.K)) (n : Nat) (h3 : n ≤ 10) (GV : ∀ m, n = m + 1 → Fd g "_law_drawn_value" ["pen", "deep"] (m + 4) (spDrawn g.K m)) : Fd g "_law_drawn_value" ["pen", "deep"] (n + 4) (spDrawn g.K n) := by
  obtain ⟨f, fd, F, hm⟩ := F
  refine fd_of F hm sc_drawn (fun _ _ _ _ ⟨a, lc, e, _⟩ => by rw [e] <;> rfl) (fun _ _ _ _ _ _ us hl => match us, hl with | [_, _], _ => rfl) (fun cdv A outer s H vs Q E hr h => ?_)
  obtain ⟨a, lc, rfl, P, k⟩ := h
  have hr1 : Room 1 (A.deeper (envOfC "_law_drawn_value" (defScope s__law_drawn_value) s.heap.objs.size f cdv)) := hr.mono (by omega)
  refine ws_set 2 sc_drawn.nd (we_draw GD hr1 0 rfl (m := if n = 0 then 2 else 5) (vd_if (vt_gt (vd_var 1 rfl (.int (n : Int))) vd_int) (fun ht => ?_) (fun ht => ?_)) P (by split <;> decide) (by split <;> decide) fun way H1 w0 w1 P1 K1 => ?_)
  · have := of_decide_eq_true ht
    rw [if_neg (by omega)]
    exact vd_int
  · have := of_decide_eq_false ht
    rw [if_pos (by omega)]
    exact vd_int
  · refine ws_if (vt_lt (vd_var 2 rfl (.int way)) vd_int) (fun ht H2 e2 => ?_) (fun ht H2 e2 => ws_nil ?_)
    · refine ws_ret (we_call0 GN (hr.mono (by omega)) (wa_cons (we_var 0 rfl (wa_cons (we_draw GD hr1 0 rfl vd_int (P1.up e2) (by decide) (by decide) fun u H3 u0 u4 P3 K3 => wa_nil ⟨a, lc, u, rfl, P3, fun v w H4 hv D4 P4 K4 => k v w H4 ?_ D4 P4 (K1.trans (ExB.trans (.of e2) (K3.trans K4)))⟩)))))
      cases n with
      | zero => exact hv
      | succ n => exact .inl hv
    · have hw : ¬ way < 2 := of_decide_eq_false ht
      cases n with
      | zero => exact absurd w1 (by rw [if_pos rfl]; omega)
      | succ n =>
        refine ws_ret (we_tupleL T.tuple (we_lcRW ["pen", "deep", "way", "lap"] (defScope s__law_drawn_value) 3 T.range (we_draw GD hr1 0 rfl vd_int (P1.up e2) (by decide) (by decide) fun u H3 u0 u4 P3 K3 => ⟨u, rfl, u0, by omega, fun D hD => ⟨fun i H' => ∃ ws ds, H' D = some (.lst ws) ∧ DpAll g.K H' ws ds ∧ ds.length = i ∧ (∀ d ∈ ds, DVal n d) ∧ Pen a lc H' ∧ ExB a H H', ?_, ?_, ?_⟩⟩) rfl sc_drawn.nd))
        · have nD := P3.ne hD
          have K03 : ExB a H H3 := K1.trans (ExB.trans (.of e2) K3)
          exact ⟨[], [], upd_same, .nil, rfl, fun d hd => absurd hd (by simp), P3.put nD, exb_put K03 (K03.none nD.1 hD)⟩
        · rintro i H4 hi ⟨ws, ds, hD4, D4, hlen, hall, P4, K4⟩ s2 H0 C cl fp
          have nD := P3.ne hD
          have K03 : ExB a H H3 := K1.trans (ExB.trans (.of e2) K3)
          have hD0 : H D = none := K03.none nD.1 hD
          refine we_call0 (GV n rfl) (hr.mono (by omega)) (wa_cons (we_var 0 rfl (wa_cons ((vd_sub (vd_var 1 rfl (.int ((n + 1 : Nat) : Int))) vd_int).use fun w H5 e5 dw => wa_nil ⟨a, lc, ?_, P4.up e5, fun v w H6 hv D6 P6 K6 => ?_⟩))))
          · rw [dw.int_v, show ((n + 1 : Nat) : Int) - 1 = (n : Int) by omega]
          · have hD6 : H6 D = some (.lst ws) := K6.lst_pen (P4.up e5) (e5 _ _ hD4)
            have im : immAll ds = true := immAll_mem fun d hd => DVal.imm n (hall d hd)
            have D6' : DpAll g.K H6 ws ds := (D4.up e5).upI im (K6.toI_pen (P4.up e5))
            have hl := D4.len
            refine ⟨ws, hD6, Nat.lt_of_le_of_lt (show ws.length ≤ 10 by omega) (by decide), ws ++ [w], ds ++ [v], upd_same, (D6'.upI im (ExI.lst hD6)).app (.one (D6.upI (DVal.imm n hv) (ExI.lst hD6))), by rw [List.length_append, hlen]; rfl, fun d hd => ?_, P6.put nD, exb_put (K4.trans (ExB.trans (.of e5) K6)) hD0⟩
            rcases List.mem_append.mp hd with h | h
            · exact hall d h
            · rw [List.mem_singleton.mp h]; exact hv
        · rintro H4 ⟨ws, ds, hD4, D4, hlen, hall, P4, K4⟩
          exact ⟨D, ws, rfl, hD4, fun m hm => k (.tuple ds) _ _ (.inr ⟨ds, rfl, by omega, hall⟩) (.tup (SqT.of upd_same) (D4.up (Evl.Ex.new hm))) (P4.up (Evl.Ex.new hm)) (K4.trans (.of (Evl.Ex.new hm)))⟩
theorem ok_drawn (T : Nm g.mg) (F : FT g "_law_drawn_value" s__law_drawn_value) (GD : FDraw g) (GN : Fd g "_law_number" ["pen", "size"] 3 (spNumber g.K)) : ∀ n, n ≤ 10 → Fd g "_law_drawn_value" ["pen", "deep"] (n + 4) (spDrawn g.K n)
  | 0, h => st_drawn T F GD GN 0 h fun m e => by omega
  | n + 1, h => st_drawn T F GD GN (n + 1) h fun m e => by
    have : m = n := by omega
    subst this
    exact ok_drawn T F GD GN m (by omega)
end
end G

/-! # D15: the pen made -/
namespace G
open PySem PySem.Spec PyProof.Rows L2
def spPen (K : PySem.W.Frag) : Sp := fun vs H Q _ => ∃ (l : Addr) (ns : List Int), vs = [.ref l] ∧ SqL K H l (ns.map V.int) ∧ ns.length ≤ 100000 ∧ ∀ a lc H', Pen a lc H' → Ex H H' → H a = none → Q (.ref a) H'
section
variable {g : Gd}
theorem sc_pen : FnScope ["script", "fold", "cell"] ["script"] (defScope s__law_pen) := ⟨rfl, rfl, rfl, by decide +kernel, rfl, by decide +kernel, by decide +kernel⟩
theorem ok_pen (T : Nm g.mg) (F : FT g "_law_pen" s__law_pen) : Fd g "_law_pen" ["script"] 1 (spPen g.K) := by
  obtain ⟨f, fd, F, hm⟩ := F
  refine fd_of F hm sc_pen (fun _ _ _ _ ⟨l, ns, e, _⟩ => by rw [e] <;> rfl) (fun _ _ _ _ _ _ us hl => match us, hl with | [_], _ => rfl) (fun cdv A outer s H vs Q E hr h => ?_)
  obtain ⟨l, ns, rfl, hl, hlen, k⟩ := h
  refine ws_setI 1 sc_pen.nd vd_int fun H1 e1 => ?_
  refine ws_forL 2 (xs := ns.map V.int) (fun _ σ H' => ∃ (m : Int) (o : Option V), σ = [some (.ref l), some (.int m), o] ∧ Ex H H') passO rfl sc_pen.nd (we_var 0 rfl ⟨rfl, Evl.ex_l e1 hl, 0, none, rfl, e1⟩) (fun i σ H' _ ⟨m, o, _, e⟩ => Evl.ex_l e hl) ?_ ?_
  · rintro n w σ H2 hw ⟨m, o, rfl, e2⟩
    obtain ⟨c, hc, rfl⟩ : ∃ c, ns[n]? = some c ∧ w = .int c := by
      rw [List.getElem?_map] at hw
      cases h : ns[n]? with
      | none => rw [h] at hw; cases hw
      | some c => rw [h] at hw; exact ⟨c, rfl, (Option.some.inj hw).symm⟩
    exact ws_setI 1 sc_pen.nd (vd_mod (vd_intI T.int (vd_add (vd_mul (vd_var 1 rfl (.int m)) vd_int (.inr ⟨by decide, by decide⟩)) (vd_var 2 rfl (.int c)))) vd_int (by decide)) fun H3 e3 => ws_nil ⟨_, _, rfl, Evl.Ex.trans e2 e3⟩
  · rintro σ H2 ⟨m, o, rfl, e2⟩
    refine ws_ret (.of (pe_disp (pps_cons WE.pe WE.pe (pps_cons WE.pe WE.pe (pps_cons WE.pe WE.pe (pps_cons WE.pe WE.pe (pps_cons WE.pe WE.pe pps_nil))))) rfl rfl (by simp) (by decide)) fun p hp => ?_)
    have hl3 : Dp g.K (upd H2 p (.dK [])) (.ref l) (.list (intD ns)) := .lst (Evl.ex_l (Evl.Ex.trans e2 (Evl.Ex.new hp)) hl) (.of_intD ns)
    refine vd_str.use fun c1 H3 e3 d1 => (vl_list T.list (vd_var 0 rfl (hl3.up e3))).use fun v1 H4 e4 ⟨lc, xs, ev, hlc, dx⟩ => ?_
    refine vd_str.use fun c2 H5 e5 d2 => vd_int.use fun v2 H6 e6 w2 => vd_str.use fun c3 H7 e7 d3 => vd_int.use fun v3 H8 e8 w3 => vd_str.use fun c4 H9 e9 d4 => vd_int.use fun v4 H10 e10 w4 => vd_str.use fun c5 H11 e11 d5 => (vd_var 1 rfl (.int m)).use fun v5 H12 e12 w5 => ?_
    obtain rfl := d1.str_v
    obtain rfl := d2.str_v
    obtain rfl := d3.str_v
    obtain rfl := d4.str_v
    obtain rfl := d5.str_v
    obtain rfl := w2.int_v
    obtain rfl := w3.int_v
    obtain rfl := w4.int_v
    obtain rfl := w5.int_v
    obtain rfl := dx.intD_v
    subst ev
    have eA : Ex H4 H12 := Evl.Ex.trans e5 (Evl.Ex.trans e6 (Evl.Ex.trans e7 (Evl.Ex.trans e8 (Evl.Ex.trans e9 (Evl.Ex.trans e10 (Evl.Ex.trans e11 e12))))))
    have eB : Ex (upd H2 p (.dK [])) H12 := Evl.Ex.trans e3 (Evl.Ex.trans e4 eA)
    have hl12 : H12 lc = some (.lst (ns.map V.int)) := eA _ _ hlc
    refine ⟨eB _ _ upd_same, pn lc 0 0 0 m, rfl, by show 5 ≤ 15; decide, ?_⟩
    have hp0 : H p = none := Evl.fresh_back e2 hp
    have em : mergeK [] (pn lc 0 0 0 m) = pn lc 0 0 0 m := rfl
    rw [em]
    refine k p lc _ ⟨0, 0, 0, m, ns, upd_same, ?_, by decide, hlen⟩ (Evl.Ex.mut (Evl.Ex.trans e2 (Evl.Ex.trans (Evl.Ex.new hp) eB)) hp0) hp0
    rw [upd_ne (fun e => by rw [e, eB _ _ upd_same] at hl12; cases hl12)]
    exact hl12
end
end G

/-! # ET: enumerate over a tuple -/
namespace G
open PySem PySem.Spec PyProof.Rows L2
set_option maxHeartbeats 8000000 in
theorem meetsEnum1 {v0 : Value} {ob : Obj} {Hy : Heap → Prop} (Bg : Begins v0 ob Hy) :
    Meets (Builtin.«enumerate.__new__» ⟨[.type "enumerate", v0], []⟩) (fun _ R sh => Hy sh.heap ∧ R (.ok (.ret (.ref (sh.heap.push ob).objs.size))) { sh with heap := (sh.heap.push ob).push { cls := .type "enumerate", data := .fields #[.none, .bool false, .ref sh.heap.objs.size, rawInt 0, .none, .none] } }) := Meets.of_wp fun pg wo Ar R sh both => by
  obtain ⟨h0, g0, d0, t0, o0⟩ := sh
  obtain ⟨y, fin⟩ := both
  have subs := sub_enumerate
  have itr : ∀ {A1 : Around} {E1 : Value → Shared → Prop} {Q1 : Value → Shared → Prop}, Q1 (.ref h0.objs.size) ⟨h0.push ob, g0, d0, t0, o0⟩ → wpAny (model pg wo) A1 (pyIter v0) Q1 E1 ⟨h0, g0, d0, t0, o0⟩ := fun q => Bg.iter pg wo _ _ ⟨h0, g0, d0, t0, o0⟩ _ y q
  wp_walk using itr
  refine wpAny_stack_any fun stk => wpAny_pure ?_
  split
  next c _ _ _ _ _ =>
    cases (c == Value.type "enumerate") <;> (wp_walk using itr; exact ⟨_, rfl, fin⟩)
  next => (wp_walk using itr; exact ⟨_, rfl, fin⟩)
theorem callEnum1 {pg : Program} {wo : World} {Ar : Around} {E1 : Value → Shared → Prop} {sh : Shared} {v0 : Value} {ob : Obj} {Hy : Heap → Prop} {Q1 : Value → Shared → Prop} (Bg : Begins v0 ob Hy) (y : Hy sh.heap)
    (fin : ∀ h2, IsEnum h2 (sh.heap.objs.size + 1) sh.heap.objs.size 0 .none → h2.get? sh.heap.objs.size = some ob → (∀ b o, sh.heap.get? b = some o → h2.get? b = some o) → Q1 (.ref (sh.heap.objs.size + 1)) { sh with heap := h2 }) : wpAny (model pg wo) Ar (call (.type "enumerate") [v0]) Q1 E1 sh := by
  refine callType_new F.called_enumerate (by decide) (F.typeCall_enumerate_1 _) (F.newCall_enumerate_1 _) (fun q => F.args_object_init_2 q _) F.entry_enumerate_new (meetsEnum1 Bg) ⟨y, ?_⟩
  have sz : (sh.heap.push ob).objs.size = sh.heap.objs.size + 1 := Heap.size_push _ _
  have en := Heap.get?_push_size (sh.heap.push ob) (o := { cls := .type "enumerate", data := .fields #[.none, .bool false, .ref sh.heap.objs.size, rawInt 0, .none, .none] }) rfl
  rw [sz] at en
  refine ⟨⟨_, by rw [sz]; exact en, rfl⟩, ?_⟩
  rw [sz]
  exact fin _ en (Heap.get?_push_of_some _ (Heap.get?_push_size _ Bg.free)) fun b o x => Heap.get?_push_of_some _ (Heap.get?_push_of_some _ x)
/-- a tuple's items in new pairs with their places -/
def IteT (K : PySem.W.Frag) (a : Addr) : It :=
  ⟨fun i H => ∃ (ws : List V) (y : V), SqT K H a ws ∧ ws[i]? = some y, fun i H v H' => ∃ D y, v = .ref D ∧ H D = none ∧ H' = upd H D (.tup [.int (i : Nat), y]) ∧ ∀ ws, SqT K H a ws → ws[i]? = some y, fun i H => ∃ ws : List V, SqT K H a ws ∧ ws.length ≤ i⟩
theorem turnEnumT {P : Program} {w : World} {K : PySem.W.Frag} {es : List Expr} {kk : Nat} {tp : Pos} (a e t : Addr) (h1 : e ≠ t) (h2 : a ≠ e) (h3 : a ≠ t) :
    Turn P w K (.Tuple es kk tp) (IteT K a) [e, t] e (fun i h => (∃ u, IsEnum h e t ((i : Nat) : Int) u) ∧ h.IsTupleIter t a i) where
  mem := List.mem_cons_self ..
  obj := fun i h ⟨⟨u, en⟩, o, ho, hc, hd⟩ b hb => by
    rcases List.mem_cons.mp hb with z | z
    · subst z; exact ⟨_, en, fun v q => by cases q⟩
    · rw [List.mem_singleton.mp z]; exact ⟨o, ho, fun v q => by rw [hd] at q; cases q⟩
  keep := fun i h h' ⟨⟨u, en⟩, ti⟩ k => ⟨⟨u, k e (by simp) _ en⟩, ti.at fun o q => k t (by simp) o q⟩
  item := by
    intro X pX wX kX calm i pins s σ H E I fre ⟨en, ti⟩ ⟨ws, y, sq, wy⟩
    subst pX wX kX
    obtain ⟨us, rel, tp2, _⟩ := I.tuple sq
    obtain ⟨u, hu, ru⟩ := rel.get wy
    have W := WalksT.enumerateD (A := X.A) (Draws.tuple (prog := X.prog) (w := X.w) (A := X.A.in1) (I.ok.hd calm) t a h3 us.toArray) e h1 (by simp [h1, Ne.symm h2]) (by simp)
    have lt : i < us.toArray.size := by
      have := (List.getElem?_eq_some_iff.mp hu).1
      simpa using this
    refine W.item i s _ _ lt ⟨en, ti, tp2⟩ fun T vals g' tk hv hT isT mid kp => ⟨.ref T, rfl, W.go es kk tp i T _ _ _ mid fun g2 st2 kp2 => ?_⟩
    obtain ⟨tt, x, hx, rfl⟩ := hv
    obtain rfl : u = x := by
      have hx2 : us[i]? = some x := by simpa using hx
      rw [hu] at hx2
      exact Option.some.inj hx2
    have nT : T ∉ [e, t] := W.apart i T g' mid
    have isT2 : g2.IsTuple T #[.int i tt, u] := isT.at fun o q => kp2 T o nT q
    have hb : ∀ b, b ∈ [e, t] → b < s.heap.objs.size := fun b hb => by
      rcases List.mem_cons.mp hb with z | z
      · obtain ⟨u0, en⟩ := en
        rw [z]; exact Heap.lt_size en
      · obtain ⟨o, q, _⟩ := ti
        rw [List.mem_singleton.mp z]; exact Heap.lt_size q
    have nw : ObjOk X.prog X.w (upd H T (.tup [.int (i : Nat), y])) g2 T (.tup [.int (i : Nat), y]) := ⟨(by decide : 2 ≤ sizeLine), [.int i tt, u], .cons ⟨_, rfl⟩ (.cons ru .nil), isT2⟩
    have J := I.turnedNew (ch := [e, t]) (t' := tk) (fun b o nb q => kp2 b o nb (kp b o nb q)) fre hT nw
    refine ⟨.ref T, _, J, rfl, ⟨T, y, rfl, I.hok.fresh hT, rfl, fun zs hz => by rw [I.tuple_inj hz sq]; exact wy⟩, ⟨?_, st2.2.1⟩, fun b hbm => ?_⟩
    · obtain ⟨u2, en2⟩ := st2.1
      exact ⟨u2, en2⟩
    · rw [upd_ne (Nat.ne_of_lt (Nat.lt_of_lt_of_le (hb b hbm) hT))]
      exact (fre b hbm).1
  done := by
    intro X pX wX kX calm i pins s σ H E I fre ⟨⟨u, en⟩, ti⟩ ⟨ws, sq, le⟩
    subst pX wX kX
    obtain ⟨us, rel, tp2, _⟩ := I.tuple sq
    have hl := rel.length
    obtain ⟨f0, f1, f2, f3, f4, f5⟩ := fre t (by simp)
    have D : Draws X.prog X.w X.A.in1 t [t, a] 0 (fun _ _ => False) (fun _ h => h.IsTupleIter t a i ∧ h.IsTuple a us.toArray) :=
      ⟨fun _ _ st => (let ⟨o, ho, _⟩ := st.1; ⟨o, ho⟩), fun _ _ _ st k => ⟨st.1.at fun o q => k t (by simp) o q, st.2.at fun o q => k a (by simp) o q⟩, fun _ _ _ _ hi => absurd hi (Nat.not_lt_zero _), fun sh Q2 E2 st hE => wpAny_nextOf_tuple_end (A := X.A.in1) (I.ok.hd calm) st.1 st.2 (by simp; omega) hE⟩
    exact wpAny_pyNext_enum_endD D en ⟨ti, tp2⟩ fun g' eb => ⟨rfl, I.turned (t' := s.toks) (fun b o hb q => eb b o hb q) f0 f1 f3 f4 f5⟩
  self := fun A i s Q E ⟨⟨u, en⟩, _⟩ q => wpAny_pyIter_enum en q
def iEnumT (K : PySem.W.Frag) (ta : TA) : TI := fun σ H R => ta σ H fun vs H1 => ∃ a ws, vs = [.ref a] ∧ SqT K H1 a ws ∧ R (IteT K a) H1
theorem pi_enumT {X : Cx} {e : Expr} {ta : TA} {p pos tpos : Pos} {es : List Expr} {kk : Nat} (hg : Gl X "enumerate") (hm : X.mg "enumerate" = none) (ha : PA X [e] ta) (hs : starEach [e] X.env = [(false, eval e X.env)] := by rfl) : PI X (.Tuple es kk tpos) (.Call (.Name "enumerate" p) [e] [] pos) (iEnumT X.K ta) := by
  constructor
  intro pins s σ H R I h
  refine Call_ (ld_blt I hg hm boot_enumerate (PyProof.Rows.callWith_type1 (thn (ha.run pos pins s σ H _ I h) fun us s1 ⟨vs, H1, I1, rel, a, ws, ev, sq, q⟩ => ?_) hs rfl))
  subst ev
  obtain ⟨its, rv, tp, _⟩ := I1.tuple sq
  cases rel with
  | cons r0 rr =>
    cases rr
    cases r0
    have ha0 : a < s1.heap.objs.size := by
      obtain ⟨o, ho, _⟩ := (show s1.heap.IsTuple a its.toArray from tp)
      exact Heap.lt_size ho
    refine callEnum1 (begins_tuple a its.toArray) (show s1.heap.IsTuple a its.toArray from tp) fun h2 en it2 kp => wpAny_pyIter_enum en ?_
    refine ⟨s1.heap.objs.size + 1, [s1.heap.objs.size + 1, s1.heap.objs.size], _, _, H1, rfl, I1.kept (t' := s1.toks) kp, turnEnumT a (s1.heap.objs.size + 1) s1.heap.objs.size (Nat.succ_ne_self _) (Nat.ne_of_lt (Nat.lt_succ_of_lt ha0)) (Nat.ne_of_lt ha0), ⟨⟨.none, en⟩, _, it2, rfl, rfl⟩, fun b hb => ?_, q⟩
    have le : s1.heap.objs.size ≤ b := by
      rcases List.mem_cons.mp hb with z | z
      · rw [z]; exact Nat.le_succ _
      · rw [List.mem_singleton.mp z]; exact Nat.le_refl _
    exact I1.fpOk le (I1.hok.fresh le)
theorem walk_enumT {K : PySem.W.Frag} {a : Addr} {ws : List V} : Walk (IteT K a) ws.length (fun H => SqT K H a ws) (YPair (fun i => some (.int (i : Nat))) (fun i => ws[i]?)) :=
  ⟨fun i _ hi q => ⟨ws, ws[i], q, by simp [hi]⟩, fun _ q => ⟨ws, q, Nat.le_refl _⟩, fun i H v H' _ q ⟨D, x, e1, e2, e3, e4⟩ => ⟨D, .int (i : Nat), x, e1, e2, e3, rfl, e4 ws q⟩⟩
end G

/-! # D16: loops over enumerate -/
namespace G
open PySem PySem.Spec PyProof.Rows L2
section
variable {X : Cx} {e : Expr} {σ : St} {H : Hp} {pos p pr pc px py pt : Pos} {x y : Str} {kt} {rest body : List Stmt} {D : Ends}
theorem ws_forET (i j : Nat) {l : Addr} {xs : List V} (Pv : Nat → St → Hp → Prop) (hp : PassesOwn (model X.prog X.w) X.A X.env X.xe) (hc : X.calm = true) (hN : X.N.Nodup) (hm : X.mg "enumerate" = none) (h : WE X e σ H fun v H1 => v = .ref l ∧ SqT X.K H1 l xs ∧ Pv 0 σ H1) (hl : ∀ i σ H, i ≤ xs.length → Pv i σ H → SqT X.K H l xs)
    (hs : ∀ n w σ' H1 H', xs[n]? = some w → Pv n σ' H1 → Ex H1 H' → WS X body { D with nx := Pv (n + 1), ct := Pv (n + 1), bk := WS X rest D } ((σ'.set i (some (.int (n : Nat)))).set j (some w)) H') (hd : ∀ σ' H', Pv xs.length σ' H' → WS X rest D σ' H')
    (hg : Gl X "enumerate" := by rfl) (he : starEach [e] X.env = [(false, eval e X.env)] := by rfl) (he2 : starEach [e] X.env = (false, eval e X.env) :: starEach [] X.env := by rfl) (hi : X.N[i]? = some x := by rfl) (hj : X.N[j]? = some y := by rfl)
    (hx : Loc X.env.scope x := by first | exact Or.inl rfl | exact Or.inr rfl) (hy : Loc X.env.scope y := by first | exact Or.inl rfl | exact Or.inr rfl)
    (hf : X.fn x = true ∨ X.env.scope.names.lookup x = some .local := by first | exact .inl rfl | exact .inr rfl) (hf2 : X.fn y = true ∨ X.env.scope.names.lookup y = some .local := by first | exact .inl rfl | exact .inr rfl)
    (h2 : (assignEach [.Name x px, .Name y py] X.env).map (·.2) = assign (.Name x px) X.env :: (assignEach [.Name y py] X.env).map (·.2) := by rfl) (h3 : (assignEach [.Name y py] X.env).map (·.2) = assign (.Name y py) X.env :: (assignEach [] X.env).map (·.2) := by rfl)
    (hn : (assignEach [.Name x px, .Name y py] X.env).length = 2 := by rfl) (hst : (assignEach [.Name x px, .Name y py] X.env).findIdx? (·.1) = none := by rfl) (hfs : ∀ z, foldedSetIterable (.Call (.Name "enumerate" pr) [e] [] pc) X.env z = pure z := by intro _; rfl) :
    WS X (.For (.Tuple [.Name x px, .Name y py] kt pt) (.Call (.Name "enumerate" pr) [e] [] pc) body [] pos :: rest) D σ H :=
  ws_cons (.of (ps_for hp hc (pi_enumT hg hm WA.pa he) (pg_tup hc (pgs_cons (pg_name hN hi hx hf) (pgs_cons (pg_name hN hj hy hf2) pgs_nil h3) h2) hn hst) WS.ps hfs) (wa_cons (h.mono fun v H1 ⟨ev, s, p0⟩ => wa_nil ⟨l, xs, by rw [ev], s,
    for_it (walk_enumT (ws := xs)) (D := { D with nx := WS X rest D }) Pv p0 hl (fun n v σ' H1 H' hlt pv ⟨T, a, b, e1, e2, e3, e4, e5⟩ => by
      obtain rfl := Option.some.inj e4
      subst e1 e3
      exact ⟨T, [.int (n : Nat), b], rfl, SqT.of upd_same, rfl, _, [b], rfl, b, [], rfl, rfl, hs n b σ' H1 _ e5 pv (Evl.Ex.new e2)⟩) hd⟩) he2))
theorem ws_forEL (i j : Nat) {l : Addr} {xs : List V} (Pv : Nat → St → Hp → Prop) (hp : PassesOwn (model X.prog X.w) X.A X.env X.xe) (hc : X.calm = true) (hN : X.N.Nodup) (hm : X.mg "enumerate" = none) (h : WE X e σ H fun v H1 => v = .ref l ∧ SqL X.K H1 l xs ∧ Pv 0 σ H1) (hl : ∀ i σ H, i ≤ xs.length → Pv i σ H → SqL X.K H l xs)
    (hs : ∀ n w σ' H1 H', xs[n]? = some w → Pv n σ' H1 → Ex H1 H' → WS X body { D with nx := Pv (n + 1), ct := Pv (n + 1), bk := WS X rest D } ((σ'.set i (some (.int (n : Nat)))).set j (some w)) H') (hd : ∀ σ' H', Pv xs.length σ' H' → WS X rest D σ' H')
    (hg : Gl X "enumerate" := by rfl) (he : starEach [e] X.env = [(false, eval e X.env)] := by rfl) (he2 : starEach [e] X.env = (false, eval e X.env) :: starEach [] X.env := by rfl) (hi : X.N[i]? = some x := by rfl) (hj : X.N[j]? = some y := by rfl)
    (hx : Loc X.env.scope x := by first | exact Or.inl rfl | exact Or.inr rfl) (hy : Loc X.env.scope y := by first | exact Or.inl rfl | exact Or.inr rfl)
    (hf : X.fn x = true ∨ X.env.scope.names.lookup x = some .local := by first | exact .inl rfl | exact .inr rfl) (hf2 : X.fn y = true ∨ X.env.scope.names.lookup y = some .local := by first | exact .inl rfl | exact .inr rfl)
    (h2 : (assignEach [.Name x px, .Name y py] X.env).map (·.2) = assign (.Name x px) X.env :: (assignEach [.Name y py] X.env).map (·.2) := by rfl) (h3 : (assignEach [.Name y py] X.env).map (·.2) = assign (.Name y py) X.env :: (assignEach [] X.env).map (·.2) := by rfl)
    (hn : (assignEach [.Name x px, .Name y py] X.env).length = 2 := by rfl) (hst : (assignEach [.Name x px, .Name y py] X.env).findIdx? (·.1) = none := by rfl) (hfs : ∀ z, foldedSetIterable (.Call (.Name "enumerate" pr) [e] [] pc) X.env z = pure z := by intro _; rfl) :
    WS X (.For (.Tuple [.Name x px, .Name y py] kt pt) (.Call (.Name "enumerate" pr) [e] [] pc) body [] pos :: rest) D σ H :=
  ws_cons (.of (ps_for hp hc (pi_enum hg hm WA.pa he) (pg_tup hc (pgs_cons (pg_name hN hi hx hf) (pgs_cons (pg_name hN hj hy hf2) pgs_nil h3) h2) hn hst) WS.ps hfs) (wa_cons (h.mono fun v H1 ⟨ev, s, p0⟩ => wa_nil ⟨l, xs, by rw [ev], s,
    for_it (walk_enum (xs := xs)) (D := { D with nx := WS X rest D }) Pv p0 hl (fun n v σ' H1 H' hlt pv ⟨T, a, b, e1, e2, e3, e4, e5⟩ => by
      obtain rfl := Option.some.inj e4
      subst e1 e3
      exact ⟨T, [.int (n : Nat), b], rfl, SqT.of upd_same, rfl, _, [b], rfl, b, [], rfl, rfl, hs n b σ' H1 _ e5 pv (Evl.Ex.new e2)⟩) hd⟩) he2))
end
end G

/-! # D17: the tokens of a value -/
namespace G
open PySem PySem.Spec PyProof.Rows L2
def numS (i : Int) : Str := Str.ofString (toString i)
def minusT (t : Int) : List Str := if t < 0 then ["-"] else []
def ratTok : List PyData → List Str
  | [.int t, .int b] => minusT t ++ [numS (t.natAbs : Nat), "/", numS b]
  | _ => []
mutual
def tokD : PyData → List Str
  | .int i => minusT i ++ [numS (i.natAbs : Nat)]
  | .tuple ds => if isRatio (.tuple ds) = true then ratTok ds else ([("(" : Str)] ++ tokDs ds 0) ++ (if ds.length = 1 then [("," : Str)] else []) ++ [(")" : Str)]
  | _ => []
def tokDs : List PyData → Nat → List Str
  | [], _ => []
  | d :: ds, k => ((if 0 < k then [("," : Str)] else []) ++ tokD d) ++ tokDs ds (k + 1)
end
def tokB : Nat → Nat
  | 0 => 4
  | n + 1 => 3 * (tokB n + 1) + 4
theorem minusT_len (t : Int) : (minusT t).length ≤ 1 := by unfold minusT; split <;> simp
theorem ratTok_len (ds : List PyData) : (ratTok ds).length ≤ 4 := by
  unfold ratTok
  split
  · rename_i t b
    have := minusT_len t
    simp only [List.length_append, List.length_cons, List.length_nil]
    omega
  · simp
theorem numOk_len {d : PyData} (h : NumOk d) : (tokD d).length ≤ 4 := by
  rcases h with ⟨i, rfl, _⟩ | ⟨t, b, rfl, hr, _⟩
  · have := minusT_len i
    simp only [tokD, List.length_append, List.length_cons, List.length_nil]
    omega
  · rw [tokD, if_pos hr]
    exact ratTok_len _
theorem tokDs_len {m : Nat} : ∀ (ds : List PyData) (k : Nat), (∀ d ∈ ds, (tokD d).length ≤ m) → (tokDs ds k).length ≤ ds.length * (m + 1)
  | [], _, _ => by simp [tokDs]
  | d :: ds, k, h => by
    have h1 := h d (List.mem_cons_self ..)
    have h2 := tokDs_len ds (k + 1) fun x hx => h x (List.mem_cons_of_mem _ hx)
    have h3 : (if 0 < k then ([","] : List Str) else []).length ≤ 1 := by split <;> simp
    simp only [tokDs, List.length_append, List.length_cons, Nat.succ_mul]
    omega
theorem tokB4 : ∀ n, 4 ≤ tokB n
  | 0 => by decide
  | n + 1 => by simp [tokB]
theorem dval_len : ∀ (n : Nat) {d : PyData}, DVal n d → (tokD d).length ≤ tokB n
  | 0, _, h => numOk_len h
  | n + 1, _, h => by
    rcases h with h | ⟨ds, rfl, hl, h⟩
    · exact Nat.le_trans (numOk_len h) (tokB4 _)
    · have h2 := tokDs_len ds 0 fun d hd => dval_len n (h d hd)
      rw [tokD]
      split
      · exact Nat.le_trans (ratTok_len _) (tokB4 _)
      · have h3 : (if ds.length = 1 then ([","] : List Str) else []).length ≤ 1 := by split <;> simp
        have h4 : ds.length * (tokB n + 1) ≤ 3 * (tokB n + 1) := Nat.mul_le_mul_right _ hl
        simp only [List.length_append, List.length_cons, List.length_nil, tokB]
        omega
/-- what is a ratio among the values drawn -/
theorem dval_ratio {n : Nat} {d : PyData} (h : DVal n d) (hr : isRatio d = true) : (∃ i : Int, d = .int i ∧ i.natAbs < 10 ^ 40) ∨ ∃ t b : Int, d = .tuple [.int t, .int b] ∧ 1 < b ∧ Nat.gcd t.natAbs b.natAbs = 1 ∧ t.natAbs < 10 ^ 40 ∧ b.natAbs < 10 ^ 40 := by
  have num : ∀ {d : PyData}, NumOk d → isRatio d = true → (∃ i : Int, d = .int i ∧ i.natAbs < 10 ^ 40) ∨ ∃ t b : Int, d = .tuple [.int t, .int b] ∧ 1 < b ∧ Nat.gcd t.natAbs b.natAbs = 1 ∧ t.natAbs < 10 ^ 40 ∧ b.natAbs < 10 ^ 40 := fun h hr => by
    rcases h with ⟨i, rfl, hi⟩ | ⟨t, b, rfl, hr, ht, hb⟩
    · exact .inl ⟨i, rfl, hi⟩
    · unfold isRatio at hr
      simp only [Bool.and_eq_true, decide_eq_true_eq] at hr
      exact .inr ⟨t, b, rfl, hr.1, hr.2, ht, hb⟩
  have item : ∀ {n : Nat} {i : Int}, DVal n (.int i) → i.natAbs < 10 ^ 40 := fun {n i} h => by
    have : NumOk (.int i) := by
      cases n with
      | zero => exact h
      | succ n =>
        rcases h with h | ⟨ds, e, _⟩
        · exact h
        · cases e
    rcases this with ⟨j, e, hj⟩ | ⟨_, _, e, _⟩
    · cases e; exact hj
    · cases e
  cases n with
  | zero => exact num h hr
  | succ n =>
    rcases h with h | ⟨ds, rfl, hl, h⟩
    · exact num h hr
    · match ds, hr with
      | [.int t, .int b], hr =>
        have hr' := hr
        unfold isRatio at hr'
        simp only [Bool.and_eq_true, decide_eq_true_eq] at hr'
        exact .inr ⟨t, b, rfl, hr'.1, hr'.2, item (h _ (by simp)), item (h _ (by simp))⟩
theorem low_int (i : Int) : lowD (sgn i * i) (1 * 1) = .int (i.natAbs : Nat) := by
  have e : sgn i * i = (i.natAbs : Nat) := by
    unfold sgn
    split
    · omega
    · split <;> omega
  rw [e]
  unfold lowD
  simp
theorem low_ratio {t b : Int} (hb : 1 < b) (hg : Nat.gcd t.natAbs b.natAbs = 1) : lowD (sgn t * t) (1 * b) = .tuple [.int (t.natAbs : Nat), .int b] := by
  have e : sgn t * t = (t.natAbs : Nat) := by
    unfold sgn
    split
    · omega
    · split <;> omega
  rw [e, Int.one_mul]
  unfold lowD
  rw [show ((t.natAbs : Nat) : Int).natAbs = t.natAbs from Int.natAbs_natCast _, hg, if_neg (by omega)]
  simp
def spTok (K : PySem.W.Frag) (n : Nat) : Sp := fun vs H Q _ => ∃ v d, vs = [v] ∧ Dp K H v d ∧ DVal n d ∧ ∀ w H', Ex H H' → DpL K H' w (strD (tokD d)) → Q w H'
section
variable {g : Gd}
theorem sc_ltok : FnScope ["value", "size", "found", "at", "one"] ["value"] (defScope s__law_tokens_of) := ⟨rfl, rfl, rfl, by decide +kernel, rfl, by decide +kernel, by decide +kernel⟩
theorem num_small {n : Nat} (h : n < 10 ^ 40) : ((n : Int)).natAbs.log2 < 1920 := by
  rw [Int.natAbs_natCast]
  exact log_lt (Nat.lt_trans h (by decide +kernel))
theorem tokDs_snoc : ∀ (ds : List PyData) (d : PyData) (k : Nat), tokDs (ds ++ [d]) k = tokDs ds k ++ ((if 0 < k + ds.length then [("," : Str)] else []) ++ tokD d)
  | [], d, k => by simp [tokDs]
  | x :: ds, d, k => by
    rw [List.cons_append]
    simp only [tokDs]
    rw [tokDs_snoc ds d (k + 1), List.length_cons, show k + 1 + ds.length = k + (ds.length + 1) by omega]
    simp only [List.append_assoc]
theorem strD_app (xs ys : List Str) : strD (xs ++ ys) = strD xs ++ strD ys := List.map_append ..
theorem sgn_neg {t : Int} : (sgn t < 0) ↔ t < 0 := by
  unfold sgn
  split
  · omega
  · split <;> omega
theorem sgn_b (t : Int) : -(2 ^ 64) < sgn t ∧ sgn t < 2 ^ 64 := by
  unfold sgn
  split
  · decide
  · split <;> decide
theorem st_ltok (T : Nm g.mg) (F : FT g "_law_tokens_of" s__law_tokens_of) (GR : Fd g "_law_is_ratio" ["value"] 2 (spF g.K 1 fIsRatio)) (GS : Fd g "_law_sign" ["number"] 2 (spF g.K 1 fLSign)) (GM : Fd g "_law_times" ["one", "other"] 3 (spF g.K 2 fTimes)) (GW : Fd g "_law_is_whole" ["value"] 1 (spF g.K 1 fWhole)) (n : Nat) (h3 : n ≤ 3) (GV : ∀ m, n = m + 1 → Fd g "_law_tokens_of" ["value"] (m + 4) (spTok g.K m)) : Fd g "_law_tokens_of" ["value"] (n + 4) (spTok g.K n) := by
  obtain ⟨f, fd, F, hm⟩ := F
  refine fd_of F hm sc_ltok (fun _ _ _ _ ⟨v, d, e, _⟩ => by rw [e] <;> rfl) (fun _ _ _ _ _ _ us hl => match us, hl with | [_], _ => rfl) (fun cdv A outer s H vs Q E hr h => ?_)
  obtain ⟨v, d, rfl, hv, hdv, k⟩ := h
  refine ws_if (vt_val (vd_call (n := 1) (r := .bool (isRatio d)) GR (hr.mono (by omega)) (va1 (vd_var 0 rfl hv)) rfl rfl)) (fun ht H1 e1 => ?_) (fun ht H1 e1 => ws_nil ?_)
  · have hv1 := hv.up e1
    have minus : ∀ {t : Int}, ((sgn t < 0) → ([("-" : Str)] : List Str) = minusT t) ∧ (¬ (sgn t < 0) → ([] : List Str) = minusT t) := fun {t} => by
      unfold minusT
      refine ⟨fun h => by rw [if_pos (sgn_neg.mp h)], fun h => by rw [if_neg (fun q => h (sgn_neg.mpr q))]⟩
    rcases dval_ratio hdv ht with ⟨i, rfl, hi⟩ | ⟨t, b, rfl, hb, hg, h4, h5⟩
    · refine ws_setI 1 sc_ltok.nd (vd_call (n := 2) (r := .int (i.natAbs : Nat)) GM (hr.mono (by omega)) (va2 (vd_call (n := 1) (r := .int (sgn i)) GS (hr.mono (by omega)) (va1 (vd_var 0 rfl hv1)) rfl rfl) (vd_var 0 rfl hv1)) rfl ?_) fun H2 e2 => ?_
      · show (if -(2 ^ 64) < sgn i ∧ sgn i < 2 ^ 64 then some (lowD (sgn i * i) (1 * 1)) else none) = _
        rw [if_pos (sgn_b i), low_int]
      · refine ws_retL (d := strD (tokD (.int i))) (VL.to (vl_cat (vl_if (d := strD (minusT i)) (vt_lt (vd_call (n := 1) (r := .int (sgn i)) GS (hr.mono (by omega)) (va1 (vd_var 0 rfl (hv1.up e2))) rfl rfl) vd_int) (fun hs => ?_) (fun hs => ?_)) (vl_if (d := strD [numS (i.natAbs : Nat)]) (vt_val (vd_call (n := 1) (r := .bool true) GW (hr.mono (by omega)) (va1 (vd_var 1 rfl (.int ((i.natAbs : Nat) : Int)))) rfl rfl)) (fun _ => ?_) (fun hs => Bool.noConfusion hs)) ?_) (by rw [tokD, strD_app])) fun w H3 e3 dw => k w H3 (Evl.Ex.trans e1 (Evl.Ex.trans e2 e3)) dw
        · exact (vl_lst (va1 vd_str) (show 1 ≤ 100000 by decide)).to (by rw [← minus.1 (of_decide_eq_true hs)]; rfl)
        · exact (vl_lst va_nil (show 0 ≤ 100000 by decide)).to (by rw [← minus.2 (of_decide_eq_false hs)]; rfl)
        · exact vl_lst (va1 (vd_str1 T.str (vd_var 1 rfl (.int ((i.natAbs : Nat) : Int))) (num_small hi))) (show 1 ≤ 100000 by decide)
        · have := minusT_len i
          simp only [strD, List.length_map, List.length_cons, List.length_nil]
          exact small_line (by omega)
    · have hD2 : ∀ (H2 : Hp) (w : V), Dp g.K H2 w (.tuple [.int (t.natAbs : Nat), .int b]) → Dp g.K H2 w (.tuple [.int (t.natAbs : Nat), .int b]) := fun _ _ h => h
      refine ws_setD 1 sc_ltok.nd (vd_call (n := 2) (r := .tuple [.int (t.natAbs : Nat), .int b]) GM (hr.mono (by omega)) (va2 (vd_call (n := 1) (r := .int (sgn t)) GS (hr.mono (by omega)) (va1 (vd_var 0 rfl hv1)) rfl rfl) (vd_var 0 rfl hv1)) rfl ?_) fun u H2 e2 du => ?_
      · show (if (-(2 ^ 64) < sgn t ∧ sgn t < 2 ^ 64) ∧ 0 < b ∧ b.natAbs.log2 < 8000 then some (lowD (sgn t * t) (1 * b)) else none) = _
        rw [if_pos ⟨sgn_b t, by omega, log8 (by omega) h5⟩, low_ratio hb hg]
      · have hbs : b.natAbs.log2 < 1920 := log_lt (Nat.lt_trans h5 (by decide +kernel))
        refine ws_retL (d := strD (tokD (.tuple [.int t, .int b]))) (VL.to (vl_cat (vl_if (d := strD (minusT t)) (vt_lt (vd_call (n := 1) (r := .int (sgn t)) GS (hr.mono (by omega)) (va1 (vd_var 0 rfl (hv1.up e2))) rfl rfl) vd_int) (fun hs => ?_) (fun hs => ?_)) (vl_if (d := strD [numS (t.natAbs : Nat), "/", numS b]) (vt_val (vd_call (n := 1) (r := .bool false) GW (hr.mono (by omega)) (va1 (vd_var 1 rfl du)) rfl rfl)) (fun hs => Bool.noConfusion hs) (fun _ => ?_)) ?_) (by rw [tokD, if_pos ht, ratTok, strD_app])) fun w H3 e3 dw => k w H3 (Evl.Ex.trans e1 (Evl.Ex.trans e2 e3)) dw
        · exact (vl_lst (va1 vd_str) (show 1 ≤ 100000 by decide)).to (by rw [← minus.1 (of_decide_eq_true hs)]; rfl)
        · exact (vl_lst va_nil (show 0 ≤ 100000 by decide)).to (by rw [← minus.2 (of_decide_eq_false hs)]; rfl)
        · exact vl_lst (va_cons (vd_str1 T.str (vd_ixT (vd_var 1 rfl du) vd_int (i := 0) rfl) (num_small h4)) (va2 vd_str (vd_str1 T.str (vd_ixT (vd_var 1 rfl du) vd_int (i := 1) rfl) hbs))) (show 3 ≤ 100000 by decide)
        · have := minusT_len t
          simp only [strD, List.length_map, List.length_cons, List.length_nil]
          exact small_line (by omega)
  · cases n with
    | zero =>
      rcases hdv with ⟨i, rfl, _⟩ | ⟨t, b, rfl, hr2, _⟩
      · exact Bool.noConfusion (show true = false from ht)
      · rw [hr2] at ht; cases ht
    | succ n =>
      rcases hdv with (⟨i, rfl, _⟩ | ⟨t, b, rfl, hr2, _⟩) | ⟨ds, rfl, hl3, hds⟩
      · exact Bool.noConfusion (show true = false from ht)
      · rw [hr2] at ht; cases ht
      · have hv1 := hv.up e1
        obtain ⟨a, ws, rfl, sq, da⟩ := hv1.tup_v
        refine ws_set 2 sc_ltok.nd (we_lst (wa_cons (vd_str.use fun w0 H2 e2 dw0 => wa_nil ⟨show 1 ≤ sizeLine from small_line (by decide), fun l hl => ?_⟩)))
        obtain rfl := dw0.str_v
        have hl0 : H l = none := Evl.fresh_back (Evl.Ex.trans e1 e2) hl
        have hB : ∀ m, m ≤ 3 → tokB m ≤ 300 := fun m hm => by
          have : m = 0 ∨ m = 1 ∨ m = 2 ∨ m = 3 := by omega
          rcases this with rfl | rfl | rfl | rfl <;> decide
        have item : ∀ d ∈ ds, (tokD d).length ≤ 300 := fun d hd => Nat.le_trans (dval_len n (hds d hd)) (hB n (by omega))
        have toks300 : ∀ i, (tokDs (ds.take i) 0).length ≤ 1000 := fun i => by
          have h1 := tokDs_len (m := 300) (ds.take i) 0 fun d hd => item d (List.mem_of_mem_take hd)
          have h2 : (ds.take i).length ≤ 3 := by rw [List.length_take]; omega
          have h3 := Nat.mul_le_mul_right 301 h2
          omega
        have e12 := Evl.Ex.trans e1 e2
        refine ws_forET 3 4 (xs := ws) (fun i σ H' => ∃ o3 o4, σ = [some (.ref a), none, some (.ref l), o3, o4] ∧ Ex H1 H' ∧ Ex H H' ∧ H' l = some (.lst ((("(" : Str) :: tokDs (ds.take i) 0).map V.str))) passO rfl sc_ltok.nd T.enumerate (we_var 0 rfl ⟨rfl, Evl.ex_t (Evl.Ex.trans e2 (Evl.Ex.new hl)) sq, _, _, rfl, Evl.Ex.trans e2 (Evl.Ex.new hl), Evl.Ex.trans e12 (Evl.Ex.new hl), upd_same⟩) (fun i σ H' _ ⟨_, _, _, e, _⟩ => Evl.ex_t e sq) ?_ ?_
        · rintro i w σ H3 H4 hw ⟨o3, o4, rfl, eA, eB, hD⟩ e4
          obtain ⟨dd, hdd⟩ : ∃ dd, ds[i]? = some dd := ⟨_, List.getElem?_eq_getElem (by have := (List.getElem?_eq_some_iff.mp hw).1; rw [da.len] at this; exact this)⟩
          have dw : Dp g.K H4 w dd := by
            obtain ⟨u, hu, du⟩ := da.at_ hdd
            rw [hw] at hu
            rw [Option.some.inj hu]
            exact du.up (Evl.Ex.trans eA e4)
          have hmem := List.mem_of_getElem? hdd
          refine ws_expr (we_extend (l := l) (xs := (("(" : Str) :: tokDs (ds.take i) 0).map V.str) (we_var 2 rfl ⟨rfl, e4 _ _ hD, VL.use (d := strD ((if 0 < i then [("," : Str)] else []) ++ tokD dd)) (VL.to (vl_cat (vl_if (d := strD (if 0 < i then [("," : Str)] else [])) (vt_gt (vd_var 3 rfl (.int (i : Int))) vd_int) (fun ht => ?_) (fun ht => ?_)) (fun H5 e5 => we_call0 (GV n rfl) (hr.mono (by omega)) (wa_cons (we_var 4 rfl (wa_nil ⟨w, dd, rfl, dw.up e5, hds dd hmem, fun u H6 e6 du => ⟨e6, du⟩⟩)))) ?_) (by rw [strD_app])) fun u H6 e6 du => ?_⟩))
          · have : 0 < i := by have := of_decide_eq_true ht; omega
            exact (vl_lst (va1 vd_str) (show 1 ≤ 100000 by decide)).to (by rw [if_pos this]; rfl)
          · have : ¬ 0 < i := by have := of_decide_eq_false ht; omega
            exact (vl_lst va_nil (show 0 ≤ 100000 by decide)).to (by rw [if_neg this]; rfl)
          · have h1 : (if 0 < i then [("," : Str)] else []).length ≤ 1 := by split <;> simp
            have h2 := item dd hmem
            simp only [strD, List.length_map]
            exact small_line (by omega)
          · obtain ⟨m, ys, eu, hm2, dy⟩ := du
            obtain rfl := dy.strD_v
            have hlen : ((("(" : Str) :: tokDs (ds.take i) 0).map V.str).length + (((if 0 < i then [("," : Str)] else []) ++ tokD dd).map V.str).length ≤ sizeLine := by
              have h1 : (if 0 < i then [("," : Str)] else []).length ≤ 1 := by split <;> simp
              have h2 := item dd hmem
              have h3 := toks300 i
              simp only [List.length_map, List.length_cons, List.length_append]
              exact small_line (by omega)
            refine ⟨m, _, eu, e6 _ _ (e4 _ _ hD), hm2, hlen, ws_nil ⟨_, _, rfl, ?_, Evl.Ex.mut (Evl.Ex.trans eB (Evl.Ex.trans e4 e6)) hl0, ?_⟩⟩
            · have hl1 : H1 l = none := Evl.fresh_back e2 hl
              exact Evl.Ex.mut (Evl.Ex.trans eA (Evl.Ex.trans e4 e6)) hl1
            · have hi : (ds.take i).length = i := by rw [List.length_take]; have := (List.getElem?_eq_some_iff.mp hdd).1; omega
              rw [upd_same, ← List.map_append, List.cons_append, take_next hdd, tokDs_snoc, hi, Nat.zero_add]
        · rintro σ H3 ⟨o3, o4, rfl, eA, eB, hD⟩
          have hwl : ws.length = ds.length := da.len
          rw [hwl, List.take_of_length_le (Nat.le_refl _)] at hD
          have hv3 : Dp g.K H3 (.ref a) (.tuple ds) := .tup (Evl.ex_t eA sq) (da.up eA)
          have t1 := toks300 ds.length
          rw [List.take_of_length_le (Nat.le_refl _)] at t1
          have h1 : (if ds.length = 1 then [("," : Str)] else []).length ≤ 1 := by split <;> simp
          refine ws_retL (d := strD (tokD (.tuple ds))) (VL.to (vl_cat (vl_cat (vl_var 2 rfl hD (.of_strD _)) (vl_if (d := strD (if ds.length = 1 then [("," : Str)] else [])) (vt_eq (vd_lenT T.len (vd_var 0 rfl hv3)) vd_int) (fun ht => ?_) (fun ht => ?_)) ?_) (vl_lst (va1 (vd_str (s := ")"))) (show 1 ≤ 100000 by decide)) ?_) ?_) fun w H4 e4 dw => k w H4 (Evl.Ex.trans eB e4) dw
          · have : ds.length = 1 := by have := of_decide_eq_true ht; omega
            exact (vl_lst (va1 vd_str) (show 1 ≤ 100000 by decide)).to (by rw [if_pos this]; rfl)
          · have : ¬ ds.length = 1 := by have := of_decide_eq_false ht; omega
            exact (vl_lst va_nil (show 0 ≤ 100000 by decide)).to (by rw [if_neg this]; rfl)
          · simp only [strD, List.length_map, List.length_cons]
            exact small_line (by omega)
          · simp only [strD, List.length_map, List.length_cons, List.length_append, List.length_nil]
            exact small_line (by omega)
          · have hr0 : ¬ (isRatio (.tuple ds) = true) := by rw [show isRatio (.tuple ds) = false from ht]; exact Bool.false_ne_true
            rw [tokD, if_neg hr0, strD_app, strD_app]
            rfl
theorem ok_ltok (T : Nm g.mg) (F : FT g "_law_tokens_of" s__law_tokens_of) (GR : Fd g "_law_is_ratio" ["value"] 2 (spF g.K 1 fIsRatio)) (GS : Fd g "_law_sign" ["number"] 2 (spF g.K 1 fLSign)) (GM : Fd g "_law_times" ["one", "other"] 3 (spF g.K 2 fTimes)) (GW : Fd g "_law_is_whole" ["value"] 1 (spF g.K 1 fWhole)) : ∀ n, n ≤ 3 → Fd g "_law_tokens_of" ["value"] (n + 4) (spTok g.K n)
  | 0, h => st_ltok T F GR GS GM GW 0 h fun m e => by omega
  | n + 1, h => st_ltok T F GR GS GM GW (n + 1) h fun m e => by
    have : m = n := by omega
    subst this
    exact ok_ltok T F GR GS GM GW m (by omega)
end
end G

/-! # D18: the text of a value by the law; figures -/
namespace G
open PySem PySem.Spec PyProof.Rows L2
def gluL : List Str → List Nat
  | [] => []
  | t :: ts => (tl t ++ (if t = "," ∧ ts.head? ≠ some (")" : Str) then [32] else [])) ++ gluL ts
def noTrail (ts : List Str) : Prop := ∀ i : Nat, ts[i]? = some ("," : Str) → ∃ t, ts[i + 1]? = some t
def spLText (K : PySem.W.Frag) (n : Nat) : Sp := fun vs H Q _ => ∃ v d, vs = [v] ∧ Dp K H v d ∧ DVal n d ∧ noTrail (tokD d) ∧ (gluL (tokD d)).length ≤ 1000000 ∧ (∀ t ∈ tokD d, t.length ≤ 1000) ∧ ∀ H', Ex H H' → Q (.str (mkS (gluL (tokD d)))) H'
theorem mkS_app (a b : List Nat) : mkS a ++ mkS b = mkS (a ++ b) := by
  unfold mkS
  show (⟨_⟩ : Str) = ⟨_⟩
  congr 1
  simp
theorem mkS_len (a : List Nat) : (mkS a).length = a.length := TL.len_tl (mkS a)
theorem strOf {z : Str} {l : List Nat} (h : tl z = l) : z = mkS l := by rw [← h, mkS_tl]
section
variable {g : Gd}
theorem sc_ltext : FnScope ["value", "found", "tokens", "at", "token", "close"] ["value"] (defScope s__law_text_of) := ⟨rfl, rfl, rfl, by decide +kernel, rfl, by decide +kernel, by decide +kernel⟩
theorem ok_ltext (T : Nm g.mg) (F : FT g "_law_text_of" s__law_text_of) (n : Nat) (h3 : n ≤ 3) (GT : Fd g "_law_tokens_of" ["value"] (n + 4) (spTok g.K n)) : Fd g "_law_text_of" ["value"] (n + 5) (spLText g.K n) := by
  obtain ⟨f, fd, F, hm⟩ := F
  refine fd_of F hm sc_ltext (fun _ _ _ _ ⟨v, d, e, _⟩ => by rw [e] <;> rfl) (fun _ _ _ _ _ _ us hl => match us, hl with | [_], _ => rfl) (fun cdv A outer s H vs Q E hr h => ?_)
  obtain ⟨v, d, rfl, hv, hdv, hnt, hlen, htl, k⟩ := h
  refine ws_setS 1 sc_ltext.nd (vd_str (s := "")) fun H1 e1 => ?_
  refine ws_set 2 sc_ltext.nd (we_call0 GT hr (wa_cons (we_var 0 rfl (wa_nil ⟨v, d, rfl, hv.up e1, hdv, fun w H2 e2 ⟨l, xs, ew, hl, dx⟩ => ?_⟩))))
  obtain rfl := dx.strD_v
  subst ew
  generalize hts : tokD d = ts at *
  have listD : ∀ {H'}, Ex H2 H' → Dp g.K H' (.ref l) (.list (strD ts)) := fun e => DpL.dp ⟨l, _, rfl, e _ _ hl, .of_strD _⟩
  refine ws_forEL 3 4 (xs := ts.map V.str) (fun i σ H' => ∃ pre o3 o4 o5, σ = [some v, some (.str (mkS pre)), some (.ref l), o3, o4, o5] ∧ Ex H2 H' ∧ gluL ts = pre ++ gluL (ts.drop i)) passO rfl sc_ltext.nd T.enumerate (we_var 2 rfl ⟨rfl, SqL.of hl, [], _, _, _, rfl, Evl.Ex.refl _, rfl⟩) (fun i σ H' _ ⟨_, _, _, _, _, e, _⟩ => SqL.of (e _ _ hl)) ?_ ?_
  · rintro i w σ H3 H4 hw ⟨pre, o3, o4, o5, rfl, e3, hg⟩ e4
    obtain ⟨t, ht, rfl⟩ : ∃ t, ts[i]? = some t ∧ w = .str t := by
      rw [List.getElem?_map] at hw
      cases h : ts[i]? with
      | none => rw [h] at hw; cases hw
      | some c => rw [h] at hw; exact ⟨c, rfl, (Option.some.inj hw).symm⟩
    have e34 := Evl.Ex.trans e3 e4
    obtain ⟨hi, hti⟩ := List.getElem?_eq_some_iff.mp ht
    have hdrop : ts.drop i = t :: ts.drop (i + 1) := by rw [List.drop_eq_getElem_cons hi, hti]
    have hhead : (ts.drop (i + 1)).head? = ts[i + 1]? := by rw [List.head?_drop]
    refine ws_setB 5 sc_ltext.nd (d := decide (t = ",") && !decide (ts[i + 1]? = some (")" : Str))) (vd_and (vd_eqS (vd_var 4 rfl (.str t)) vd_str) fun hc => vd_one ?_) fun H5 e5 => ?_
    · obtain ⟨u, hu⟩ := hnt i (by rw [ht]; exact congrArg some (of_decide_eq_true hc))
      have : decide (ts[i + 1]? = some (")" : Str)) = decide (u = ")") := by rw [hu, decide_eq_decide]; exact ⟨fun e => Option.some.inj e, fun e => by rw [e]⟩
      rw [this]
      exact vd_neS (vd_ixL (vd_var 2 rfl (listD e34)) ((vd_add (vd_var 3 rfl (.int (i : Int))) vd_int).to (d' := .int ((i + 1 : Nat) : Int)) rfl) (strD_at hu)) vd_str
    · generalize hb : (decide (t = ",") && !decide (ts[i + 1]? = some (")" : Str))) = b
      have hgl : gluL ts = (pre ++ (tl t ++ (if b = true then [32] else []))) ++ gluL (ts.drop (i + 1)) := by
        rw [hg, hdrop, gluL, hhead]
        have : (t = "," ∧ ts[i + 1]? ≠ some (")" : Str)) ↔ b = true := by
          rw [← hb]; simp
        simp only [this, List.append_assoc]
      have hpl : (pre ++ (tl t ++ (if b = true then [32] else []))).length ≤ 1000000 := by
        have := congrArg List.length hgl
        rw [List.length_append] at this
        omega
      have hl1 := hpl
      rw [List.length_append, List.length_append] at hl1
      refine ws_setS 1 sc_ltext.nd (d := mkS (pre ++ (tl t ++ (if b = true then [32] else [])))) ((vd_addS (vd_addS (vd_var 1 rfl (.str _)) (vd_var 4 rfl (.str t)) ?_) (vd_if (d := .str (mkS (if b = true then [32] else []))) (vt_val (vd_var 5 rfl (.bl b))) (fun h => ?_) (fun h => ?_)) ?_).to ?_) fun H6 e6 => ws_nil ⟨_, _, _, _, rfl, Evl.Ex.trans e34 (Evl.Ex.trans e5 e6), hgl⟩
      · rw [mkS_len, show t.length = (tl t).length from TL.len_tl t]
        exact Nat.le_trans (by omega) (show 1000000 ≤ sizeLine by decide)
      · rw [if_pos h]
        exact vd_str.to (congrArg PyData.str (strOf (by decide +kernel)))
      · rw [if_neg (by rw [h]; exact Bool.false_ne_true)]
        exact vd_str.to (congrArg PyData.str (strOf (by decide +kernel)))
      · have : (mkS pre ++ t).length = pre.length + (tl t).length := by
          conv => lhs; rw [← mkS_tl t, mkS_app, mkS_len, List.length_append]
        rw [this, mkS_len]
        exact Nat.le_trans (by omega) (show 1000000 ≤ sizeLine by decide)
      · conv => lhs; rw [← mkS_tl t]
        rw [mkS_app, mkS_app, List.append_assoc]
  · rintro σ H3 ⟨pre, o3, o4, o5, rfl, e3, hg⟩
    rw [List.length_map, List.drop_length] at hg
    refine ws_ret (we_var 1 rfl ?_)
    have := k H3 (Evl.Ex.trans e1 (Evl.Ex.trans e2 e3))
    rw [hg, gluL, List.append_nil] at this
    exact this
/-! ### figures -/
def fFig : List PyData → Option PyData
  | [.str z] => if z.length ≤ 40000 ∧ PyData.strOk z = true then some (.bool (numL 400 (tl z))) else none
  | _ => none
theorem lay_mem {ds : List PyData} (h : ∀ d ∈ ds, PyData.canLay0 d = true) : PyData.canLayAll0 ds = true := by
  induction ds with
  | nil => rfl
  | cons d ds ih =>
    simp only [PyData.canLayAll0, Bool.and_eq_true]
    exact ⟨h d (List.mem_cons_self ..), ih fun x hx => h x (List.mem_cons_of_mem _ hx)⟩
theorem depth_mem {n : Nat} {ds : List PyData} (h : ∀ d ∈ ds, PyData.depth d ≤ n) : PyData.depthAll ds ≤ n := by
  induction ds with
  | nil => simp [PyData.depthAll]
  | cons d ds ih =>
    simp only [PyData.depthAll]
    exact Nat.max_le.mpr ⟨h d (List.mem_cons_self ..), ih fun x hx => h x (List.mem_cons_of_mem _ hx)⟩
theorem shaped_strs {ds : List PyData} (h : ∀ d ∈ ds, ∃ z, d = .str z ∧ PyData.strOk z = true) : SeqAt.shaped (.list ds) = true := by
  unfold SeqAt.shaped
  simp only [PyData.canLay0, PyData.depth, Bool.and_eq_true, decide_eq_true_eq]
  refine ⟨lay_mem fun d hd => ?_, ?_⟩
  · obtain ⟨z, rfl, hz⟩ := h d hd
    exact hz
  · refine decide_eq_true (Nat.le_trans (Nat.succ_le_succ (depth_mem (n := 0) (ds := ds) fun d hd => ?_)) (by decide : 1 ≤ 64))
    obtain ⟨z, rfl, hz⟩ := h d hd
    exact Nat.le_refl 0
theorem sel_mem : ∀ (bs : List Bool) (fs : List PyData) (d : PyData), d ∈ sel bs fs → d ∈ fs
  | [], _, _, h => by simp [sel] at h
  | true :: _, [], _, h => by simp [sel] at h
  | false :: _, [], _, h => by simp [sel] at h
  | true :: bs, f :: fs, d, h => by
    simp only [sel, List.mem_cons] at h
    rcases h with h | h
    · rw [h]; exact List.mem_cons_self ..
    · exact List.mem_cons_of_mem _ (sel_mem bs fs d h)
  | false :: bs, f :: fs, d, h => by
    simp only [sel] at h
    exact List.mem_cons_of_mem _ (sel_mem bs fs d h)
theorem eqv_nil (ds : List PyData) : PyData.eqv (.list ds) (.list []) = ds.isEmpty := by
  cases ds <;> simp [PyData.eqv, PyData.eqvAll]
theorem sel_none (p : Nat → Bool) (k : Nat → PyData) : ∀ cs : List Nat, (sel (cs.map fun c => !p c) (cs.map k)).isEmpty = cs.all p
  | [] => rfl
  | c :: cs => by
    rw [List.map_cons, List.map_cons, List.all_cons]
    cases h : p c with
    | true => show (sel (cs.map fun c => !p c) (cs.map k)).isEmpty = _; rw [sel_none p k cs, Bool.true_and]
    | false => rfl
section
variable {g : Gd}
theorem sc_lfig : FnScope ["word", "one"] ["word"] (defScope s__law_is_figures) := ⟨rfl, rfl, rfl, by decide +kernel, rfl, by decide +kernel, by decide +kernel⟩
theorem ok_lfig (T : Nm g.mg) (F : FT g "_law_is_figures" s__law_is_figures) : Fd g "_law_is_figures" ["word"] 1 (spF g.K 1 fFig) := by
  obtain ⟨f, fd, F, hm⟩ := F
  refine fd_of F hm sc_lfig (fun _ _ _ _ h => h.1) (fun _ _ _ _ _ _ us hl => match us, hl with | [_], _ => rfl) (fun cdv A outer s H vs Q E hr h => ?_)
  obtain ⟨hl, ds, r, hd, hf, k⟩ := h
  obtain ⟨v, d, rfl, rfl, hv⟩ := one_of hl hd
  obtain ⟨z, rfl⟩ : ∃ z, d = .str z := by
    match d, hf with
    | .str z, _ => exact ⟨z, rfl⟩
  obtain rfl := hv.str_v
  have hf' : (if z.length ≤ 40000 ∧ PyData.strOk z = true then some (PyData.bool (numL 400 (tl z))) else none) = some r := hf
  by_cases hc : z.length ≤ 40000 ∧ PyData.strOk z = true
  · rw [if_pos hc] at hf'
    obtain rfl := Option.some.inj hf'
    obtain ⟨hz, hok⟩ := hc
    have hz' : z.length ≤ sizeLine := Nat.le_trans hz (by decide)
    have hlen : (tl z).length = z.length := (TL.len_tl z).symm
    have e0 : decide (z = "") = (tl z).isEmpty := by rw [Bool.eq_iff_iff, decide_eq_true_iff, str_nil, List.isEmpty_iff]
    have esel : (sel ((tl z).map fun c => !isFig c) (sgD z)).isEmpty = (tl z).all isFig := sel_none _ _ _
    refine ws_if (VW.vt (vw_or (vt_eqS (vd_var 0 rfl (.str z)) vd_str) fun _ => vw_or (vt_gt (vd_lenS T.len (vd_var 0 rfl (.str z)) hz') vd_int) fun _ => vw_or1 (vt_neD hr.units (VL.vd (vl_lcIfS ["word", "one"] (defScope s__law_is_figures) 1 (z := z) (fs := sgD z) (vd_var 0 rfl (.str z)) rfl (immAll_mem fun d hd => ?_) (by rw [sgD_len]; exact hz) ((tl z).map fun c => !isFig c) (by rw [List.length_map, sgD_len, hlen]) (fun i' d w f H1 hd hf e1 dw t ht s2 H2 C cl fp => ?_) (fun i' d w f H1 hd hf e1 dw ht s2 H2 C cl fp => ?_) rfl sc_lfig.nd)) (VL.vd (vl_lst va_nil (show 0 ≤ 100000 by decide))) (shaped_strs fun d hd => ?_) (shaped_strs fun d hd => absurd hd (by simp))))) (fun ht H1 e1 => ?_) (fun ht H1 e1 => ?_)
    · obtain ⟨c, _, rfl⟩ := List.mem_map.mp hd
      rfl
    · obtain ⟨c, hc1, rfl⟩ := sgD_c hd
      have et : t = !decide (c ∈ tl "0123456789") := by
        rw [List.getElem?_map, hc1] at ht
        rw [mem_figures]
        exact (Option.some.inj ht).symm
      rw [et]
      exact vt_ninS (vd_var 1 rfl dw) vd_str
    · rw [hd] at hf
      obtain rfl := Option.some.inj hf
      exact vd_var 1 rfl dw
    · obtain ⟨c, hc1, rfl⟩ := List.mem_map.mp (sel_mem _ _ _ hd)
      refine ⟨_, rfl, ?_⟩
      unfold PyData.strOk at hok ⊢
      rw [Array.all_eq_true'] at hok
      have := hok c (Array.mem_toList_iff.mp hc1)
      simpa using this
    · rw [eqv_nil, esel, e0] at ht
      refine ws_retD vd_bl fun w H2 e2 dw => k w H2 (Evl.Ex.trans e1 e2) ?_
      have en : numL 400 (tl z) = false := by
        unfold numL
        cases h1 : (tl z).isEmpty with
        | true => rfl
        | false =>
          rw [h1] at ht
          by_cases h2 : (tl z).length ≤ 400
          · have h3 : decide ((400 : Int) < (z.length : Int)) = false := decide_eq_false (by omega)
            rw [h3] at ht
            have h4 : ((tl z).all isFig) = false := by simpa using ht
            rw [h4]
            simp
          · rw [decide_eq_false h2]
            simp
      rw [en]
      exact dw
    · rw [eqv_nil, esel, e0] at ht
      simp only [Bool.or_eq_false_iff, Bool.not_eq_false'] at ht
      obtain ⟨h1, h2, h3⟩ := ht
      have h2' : (tl z).length ≤ 400 := by have := of_decide_eq_false h2; omega
      have en : numL 400 (tl z) = (decide (tl z = [48]) || !decide ((tl z).head? = some 48)) := by
        unfold numL
        rw [h1, decide_eq_true h2', h3]
        rfl
      obtain ⟨c, cs, hcs⟩ : ∃ c cs, tl z = c :: cs := by
        cases h : tl z with
        | nil => rw [h] at h1; cases h1
        | cons c cs => exact ⟨c, cs, rfl⟩
      refine ws_nil (ws_retD (vd_or (vd_eqS (vd_var 0 rfl (.str z)) vd_str) fun _ => vd_one (vd_neS (vd_ixS (n := c) (vd_var 0 rfl (.str z)) vd_int hz' ?_) vd_str)) fun w H2 e2 dw => k w H2 (Evl.Ex.trans e1 e2) ?_)
      · exact atI_nat (j := 0) (show (tl z)[0]? = some c by rw [hcs]; rfl)
      · rw [en]
        have e1 : decide (z = "0") = decide (tl z = [48]) := by rw [decide_eq_decide]; exact str_zero
        have e2 : decide ((⟨#[c]⟩ : Str) = "0") = decide ((tl z).head? = some 48) := by rw [decide_eq_decide, hcs]; simpa using sign_zero
        rw [← e1, ← e2]
        exact dw
  · rw [if_neg hc] at hf'
    cases hf'
end
end
end G

/-! # D19: the law reads tokens -/
namespace G
open PySem PySem.Spec PyProof.Rows L2
def plc : Res → Nat
  | .ok (_, j) => j
  | .error p => p
def okR : Res → Bool
  | .ok _ => true
  | .error _ => false
def resD (r : Res) : PyData := .tuple [.int (plc r : Nat), .bool (okR r)]
def spRead (K : PySem.W.Frag) (n : Nat) : Sp := fun vs H Q _ => ∃ (l : Addr) (ts : List Str) (i : Nat) (r : Res), vs = [.ref l, .int i] ∧ H l = some (.lst (ts.map V.str)) ∧ ts.length ≤ 40000 ∧ (∀ t, t ∈ ts → t.length ≤ 40000 ∧ PyData.strOk t = true) ∧ pVal ts n i = some r ∧ ∀ w H', Ex H H' → Dp K H' w (resD r) → Q w H'
theorem cut1 (ts : List Str) (i : Nat) : cutD (strD ts) (some (i : Int)) (some ((i + 1 : Nat) : Int)) = strD (ts[i]?).toList := by
  unfold cutD
  rw [HT.sIx_nat, HT.sIx_nat]
  have hl : (strD ts).length = ts.length := by simp [strD]
  rw [hl]
  by_cases h : i < ts.length
  · rw [Nat.min_eq_left (by omega), Nat.min_eq_left (by omega), List.getElem?_eq_getElem h, show i + 1 - i = 1 by omega]
    unfold strD
    rw [List.drop_eq_getElem_cons (by simpa using h), List.take_succ_cons, List.take_zero]
    simp
  · rw [Nat.min_eq_right (by omega), Nat.min_eq_right (by omega), List.getElem?_eq_none (by omega), Nat.sub_self, List.take_zero]
    rfl
theorem eqv_one (o : Option Str) (c : Str) : PyData.eqv (.list (strD o.toList)) (.list [.str c]) = decide (o = some c) := by
  cases o with
  | none => rfl
  | some t =>
    show (PyData.eqv (.str t) (.str c) && true) = _
    rw [Bool.and_true, PyData.eqv, Bool.eq_iff_iff, beq_iff_eq, decide_eq_true_iff]
    exact ⟨fun e => by rw [e], fun e => Option.some.inj e⟩
section
variable {X : Cx} {o e lo hi : Expr} {σ : St} {H : Hp} {pos p p2 p3 p4 p5 : Pos}
theorem vd_cut1 {ts : List Str} {i : Nat} (ho : VD X o σ H (.list (strD ts))) (h1 : VD X lo σ H (.int i)) (h2 : VD X hi σ H (.int ((i + 1 : Nat) : Int))) : VD X (.Subscript o (.Slice (some lo) (some hi) none p2) pos) σ H (.list (strD (ts[i]?).toList)) := by
  have y := (vl_cut (p2 := p2) (pos := pos) ho (vo_some h1) (vo_some h2)).vd
  rw [cut1] at y
  exact y
theorem shaped_one {ts : List Str} {i : Nat} (hs : ∀ t, t ∈ ts → t.length ≤ 40000 ∧ PyData.strOk t = true) : SeqAt.shaped (.list (strD (ts[i]?).toList)) = true := shaped_strs fun d hd => by
  cases h : ts[i]? with
  | none => rw [h] at hd; simp [strD] at hd
  | some t =>
    rw [h] at hd
    simp only [strD, Option.toList, List.map_cons, List.map_nil, List.mem_singleton] at hd
    exact ⟨t, hd, (hs t (List.mem_of_getElem? h)).2⟩
theorem vt_cut1 {ts : List Str} {i : Nat} {c : Str} {j} (hu : X.A.units + 64 < cLine) (hs : ∀ t, t ∈ ts → t.length ≤ 40000 ∧ PyData.strOk t = true) (hc : PyData.strOk c = true) (ho : VD X o σ H (.list (strD ts))) (h1 : VD X lo σ H (.int i)) (h2 : VD X hi σ H (.int ((i + 1 : Nat) : Int))) (hst : starEach [.Constant (.str c) j p4] X.env = (false, eval (.Constant (.str c) j p4) X.env) :: starEach [] X.env := by rfl) :
    VT X (.Compare (.Subscript o (.Slice (some lo) (some hi) none p2) pos) [.Eq] [.List [.Constant (.str c) j p4] p3] p) σ H (decide (ts[i]? = some c)) :=
  (vt_eqD hu (vd_cut1 ho h1 h2) (VL.vd (vl_lst (va1 vd_str hst) (show 1 ≤ 100000 by decide))) (shaped_one hs) (shaped_strs fun d hd => ⟨c, List.mem_singleton.mp hd, hc⟩)).to (eqv_one _ _)
theorem vt_ncut1 {ts : List Str} {i : Nat} {c : Str} {j} (hu : X.A.units + 64 < cLine) (hs : ∀ t, t ∈ ts → t.length ≤ 40000 ∧ PyData.strOk t = true) (hc : PyData.strOk c = true) (ho : VD X o σ H (.list (strD ts))) (h1 : VD X lo σ H (.int i)) (h2 : VD X hi σ H (.int ((i + 1 : Nat) : Int))) (hst : starEach [.Constant (.str c) j p4] X.env = (false, eval (.Constant (.str c) j p4) X.env) :: starEach [] X.env := by rfl) :
    VT X (.Compare (.Subscript o (.Slice (some lo) (some hi) none p2) pos) [.NotEq] [.List [.Constant (.str c) j p4] p3] p) σ H (!decide (ts[i]? = some c)) :=
  (vt_neD hu (vd_cut1 ho h1 h2) (VL.vd (vl_lst (va1 vd_str hst) (show 1 ≤ 100000 by decide))) (shaped_one hs) (shaped_strs fun d hd => ⟨c, List.mem_singleton.mp hd, hc⟩)).to (by rw [eqv_one])
/-- tokens[i] if i < len(tokens) else '' -/
theorem vd_tokL {ts : List Str} {i : Nat} {e2 o2 : Expr} {jc} (hm : X.mg "len" = none) (ho : VD X o σ H (.list (strD ts))) (ho2 : VD X o2 σ H (.list (strD ts))) (h1 : VD X e σ H (.int i)) (h2 : VD X e2 σ H (.int i)) (hg : Gl X "len" := by rfl) (he : starEach [o2] X.env = (false, eval o2 X.env) :: starEach [] X.env := by rfl) (hpl : (backTo p2 (starEach [] X.env)).any (·.1) = false := by rfl) (hs : PlainIx e2 := by exact fun _ _ => rfl) (hm2 : behindInMarks .Lt (.Call (.Name "len" p) [o2] [] p2) = false := by rfl) :
    VD X (.IfExp (.Compare e [.Lt] [.Call (.Name "len" p) [o2] [] p2] p3) (.Subscript o e2 p4) (.Constant (.str "") jc p5) pos) σ H (.str (tok ts i)) := by
  have hl : (strD ts).length = ts.length := by simp [strD]
  refine vd_if (vt_lt h1 (vd_len hm ho2 hg he hpl)) (fun ht => ?_) (fun ht => ?_)
  · have := of_decide_eq_true ht
    have hi : i < ts.length := by omega
    exact vd_ixL ho h2 (strD_at (show ts[i]? = some (tok ts i) by unfold tok; rw [List.getElem?_eq_getElem hi]; rfl)) hs
  · have := of_decide_eq_false ht
    have hi : ts.length ≤ i := by omega
    rw [show tok ts i = "" by unfold tok; rw [List.getElem?_eq_none hi]; rfl]
    exact vd_str
end
section
variable {g : Gd}
theorem sc_lread : FnScope ["tokens", "at", "token", "right", "many", "start", "top", "low", "good"] ["tokens", "at"] (defScope s__law_read) := ⟨rfl, rfl, rfl, by decide +kernel, rfl, by decide +kernel, by decide +kernel⟩
theorem tok_eq {ts : List Str} {i : Nat} {c : Str} (hc : c ≠ "") : decide (tok ts i = c) = decide (ts[i]? = some c) := by
  unfold tok
  cases ts[i]? with
  | none => rw [decide_eq_decide]; exact ⟨fun e => absurd e.symm hc, fun e => by cases e⟩
  | some t => rw [decide_eq_decide]; exact ⟨fun e => congrArg some e, fun e => Option.some.inj e⟩
theorem num_zero {z : Str} (h : numL 400 (tl z) = true) : (z = "0") ↔ numOf z = 0 := by
  obtain ⟨_, _, e⟩ := num_of h
  rw [e, str_zero]
  unfold numL at h
  simp only [Bool.and_eq_true, Bool.or_eq_true, decide_eq_true_eq, Bool.not_eq_true', decide_eq_false_iff_not] at h
  obtain ⟨⟨⟨h1, h2⟩, h3⟩, h4⟩ := h
  constructor
  · intro hz
    rw [hz]
    rfl
  · intro hz
    rcases h4 with h4 | h4
    · exact h4
    · cases hcs : tl z with
      | nil => rw [hcs] at h1; cases h1
      | cons c cs =>
        rw [hcs] at h3 h4 hz
        have hc : isFig c = true := List.all_eq_true.mp h3 c (List.mem_cons_self ..)
        unfold isFig at hc
        simp only [Bool.and_eq_true, decide_eq_true_eq] at hc
        have : c ≠ 48 := fun q => h4 (by rw [q]; rfl)
        have := PySem.NumText.digitsVal_pos (c := c) (cs := cs) (by omega)
        omega
theorem st_lread (T : Nm g.mg) (F : FT g "_law_read" s__law_read) (GF : Fd g "_law_is_figures" ["word"] 1 (spF g.K 1 fFig)) (GD : Fd g "_law_divisor" ["one", "other"] 1 (spF g.K 2 fDiv)) (n : Nat) (GV : Fd g "_law_read" ["tokens", "at"] (n + 2) (spRead g.K n)) : Fd g "_law_read" ["tokens", "at"] (n + 3) (spRead g.K (n + 1)) := by
  obtain ⟨f, fd, F, hm⟩ := F
  refine fd_of F hm sc_lread (fun _ _ _ _ ⟨l, ts, i, r, e, _⟩ => by rw [e] <;> rfl) (fun _ _ _ _ _ _ us hl => match us, hl with | [_, _], _ => rfl) (fun cdv A outer s H vs Q E hr h => ?_)
  obtain ⟨l, ts, i, r, rfl, hl, few, hsh, hv, k⟩ := h
  have hu := hr.units
  have hsh2 : ∀ t, t ∈ ts → t.length ≤ 40000 := fun t ht => (hsh t ht).1
  have lD : ∀ {H'}, Ex H H' → Dp g.K H' (.ref l) (.list (strD ts)) := fun e => DpL.dp ⟨l, _, rfl, e _ _ hl, .of_strD _⟩
  refine ws_setS 2 sc_lread.nd (vd_tokL T.len (vd_var 0 rfl (lD (Evl.Ex.refl _))) (vd_var 0 rfl (lD (Evl.Ex.refl _))) (vd_var 1 rfl (.int (i : Int))) (vd_var 1 rfl (.int (i : Int)))) fun H1 e1 => ?_
  unfold pVal at hv
  have te := tok_eq (ts := ts) (i := i) (c := "(") (by decide +kernel)
  refine ws_if ((vt_eqS (vd_var 2 rfl (.str (tok ts i))) vd_str).to te) (fun ht H2 e2 => ?_) (fun ht H2 e2 => ws_nil ?_)
  · have hp := of_decide_eq_true ht
    rw [if_pos hp] at hv
    have e12 := Evl.Ex.trans e1 e2
    have at1 : ∀ {H' : Hp} {i : Nat} {o2 o3 o4 : Option V} {p q w : Pos}, VD (cxOf (CXg g) g.P g.w g.K g.mg g.base ["tokens", "at", "token", "right", "many", "start", "top", "low", "good"] "_law_read" (defScope s__law_read) f cdv A outer s H E) (.BinOp (.Name "at" p) .Add (.Constant (.int 1) 0 q) w) [some (.ref l), some (.int i), o2, o3, o4, none, none, none, none] H' (.int ((i + 1 : Nat) : Int)) := fun {H' i o2 o3 o4 p q w} => (vd_add (vd_var 1 rfl (.int (i : Int))) vd_int)
    have at2 : ∀ {H' : Hp} {i : Nat} {o2 o3 o4 : Option V} {p q w : Pos}, VD (cxOf (CXg g) g.P g.w g.K g.mg g.base ["tokens", "at", "token", "right", "many", "start", "top", "low", "good"] "_law_read" (defScope s__law_read) f cdv A outer s H E) (.BinOp (.Name "at" p) .Add (.Constant (.int 2) 0 q) w) [some (.ref l), some (.int i), o2, o3, o4, none, none, none, none] H' (.int ((i + 2 : Nat) : Int)) := fun {H' i o2 o3 o4 p q w} => (vd_add (vd_var 1 rfl (.int (i : Int))) vd_int)
    refine ws_if (vt_cut1 hu hsh (by decide +kernel) (vd_var 0 rfl (lD e12)) at1 at2) (fun hq H3 e3 => ?_) (fun hq H3 e3 => ws_nil ?_)
    · have hq := of_decide_eq_true hq
      rw [if_pos hq] at hv
      obtain rfl := Option.some.inj hv
      exact ws_retD (vd_tup (va2 at2 vd_bl) (show 2 ≤ 100000 by decide)) fun w H4 e4 dw => k w H4 (Evl.Ex.trans e12 (Evl.Ex.trans e3 e4)) dw
    · have hq := of_decide_eq_false hq
      rw [if_neg hq] at hv
      obtain ⟨r1, h1⟩ : ∃ r1, pVal ts n (i + 1) = some r1 := by
        cases h : pVal ts n (i + 1) with
        | none => rw [h] at hv; cases hv
        | some r1 => exact ⟨r1, rfl⟩
      have e13 := Evl.Ex.trans e12 e3
      refine ws_unp2 1 3 rfl sc_lread.nd (we_call0 GV hr (wa_cons (we_var 0 rfl (wa_cons (at1.use fun w0 H4 e4 d4 => wa_nil ⟨l, ts, i + 1, r1, by rw [d4.int_v], e4 _ _ (e13 _ _ hl), few, hsh, h1, fun w H5 e5 dw => ?_⟩)))))
      obtain ⟨tl0, u1, u2, rfl, hs5, d1, d2⟩ := tup2_v dw
      obtain rfl := d1.int_v
      obtain rfl := d2.bl_v
      refine ⟨tl0, _, _, rfl, hs5, ?_⟩
      have e15 := Evl.Ex.trans e13 (Evl.Ex.trans e4 e5)
      refine ws_setI 4 sc_lread.nd vd_int fun H6 e6 => ?_
      refine ws_while (fun σ H' => ∃ (m : Nat) (cur : Res) (o2 : Option V), σ = [some (.ref l), some (.int (plc cur : Nat)), o2, some (.bl (okR cur)), some (.int (m : Nat)), none, none, none, none] ∧ Ex H H' ∧ ((m = 1 ∧ cur = r1) ∨ (2 ≤ m ∧ match cur with
          | .error p => r = .error p
          | .ok (_, kk) => ∃ m' vs, pMore (pVal ts n) ts m' vs kk = some r ∧ m' + m ≤ 40010))) (fun σ _ => (50000 - sI σ 4).toNat) passO ⟨1, r1, _, rfl, Evl.Ex.trans e15 e6, .inl ⟨rfl, rfl⟩⟩ ?_
      rintro σ H7 ⟨m, cur, o2, rfl, e7, hst⟩
      have same : ∀ {H' : Hp} {p : Pos}, VD (cxOf (CXg g) g.P g.w g.K g.mg g.base ["tokens", "at", "token", "right", "many", "start", "top", "low", "good"] "_law_read" (defScope s__law_read) f cdv A outer s H E) (.Name "at" p) [some (.ref l), some (.int (plc cur : Nat)), o2, some (.bl (okR cur)), some (.int (m : Nat)), none, none, none, none] H' (.int (plc cur : Nat)) := fun {H' p} => vd_var 1 rfl (.int ((plc cur : Nat) : Int))
      refine (VW.vt (vw_and (vt_val (vd_var 3 rfl (.bl (okR cur)))) fun _ => vw_and1 (vt_cut1 (c := ",") (i := plc cur) hu hsh (by decide +kernel) (vd_var 0 rfl (lD e7)) same at1))).use fun H8 e8 => ?_
      have e8' := Evl.Ex.trans e7 e8
      by_cases hcm : okR cur = true ∧ ts[plc cur]? = some ("," : Str)
      · rw [hcm.1, decide_eq_true hcm.2]
        refine iteT ?_
        obtain ⟨v, kk, rfl⟩ : ∃ v kk, cur = .ok (v, kk) := by
          cases cur with
          | error p => cases hcm.1
          | ok vk => exact ⟨vk.1, vk.2, rfl⟩
        have hc2 : ts[kk]? = some ("," : Str) := hcm.2
        refine ws_if (VW.vt (vw_and (vt_eq (vd_var 4 rfl (.int (m : Int))) vd_int) fun _ => vw_and1 (vt_cut1 (c := ")") (i := kk + 1) hu hsh (by decide +kernel) (vd_var 0 rfl (lD e8')) at1 at2))) (fun hb H9 e9 => ?_) (fun hb H9 e9 => ws_nil ?_)
        · simp only [Bool.and_eq_true, decide_eq_true_eq] at hb
          rcases hst with ⟨rfl, rfl⟩ | ⟨h2, _⟩
          · rw [h1] at hv
            simp only at hv
            rw [if_pos hc2, if_pos hb.2] at hv
            obtain rfl := Option.some.inj hv
            exact ws_retD (vd_tup (va2 at2 vd_bl) (show 2 ≤ 100000 by decide)) fun w H4 e4 dw => k w H4 (Evl.Ex.trans e8' (Evl.Ex.trans e9 e4)) dw
          · exact absurd hb.1 (by omega)
        · have e89 := Evl.Ex.trans e8' e9
          have nxt : ∃ r2, pVal ts n (kk + 1) = some r2 ∧ (match r2 with
              | .error p => r = .error p
              | .ok (_, k2) => ∃ m' vs, pMore (pVal ts n) ts m' vs k2 = some r ∧ m' + (m + 1) ≤ 40010) ∧ 1 ≤ m ∧ m ≤ 40010 := by
            rcases hst with ⟨rfl, rfl⟩ | ⟨h2, m', vs, hm', hb'⟩
            · have hb2 : ¬ ts[kk + 1]? = some (")" : Str) := fun q => by simp [q] at hb
              rw [h1] at hv
              simp only at hv
              rw [if_pos hc2, if_neg hb2] at hv
              cases hv2 : pVal ts n (kk + 1) with
              | none => rw [hv2] at hv; cases hv
              | some r2 =>
                rw [hv2] at hv
                refine ⟨r2, rfl, ?_, by omega, by omega⟩
                cases r2 with
                | error p => exact (Option.some.inj hv).symm
                | ok uk => exact ⟨_, _, hv, by omega⟩
            · cases m' with
              | zero => cases hm'
              | succ m' =>
                unfold pMore at hm'
                rw [if_pos hc2] at hm'
                cases hv2 : pVal ts n (kk + 1) with
                | none => rw [hv2] at hm'; cases hm'
                | some r2 =>
                  rw [hv2] at hm'
                  refine ⟨r2, rfl, ?_, by omega, by omega⟩
                  cases r2 with
                  | error p => exact (Option.some.inj hm').symm
                  | ok uk => exact ⟨_, _, hm', by omega⟩
          obtain ⟨r2, hr2, hst2, hm1, hm2⟩ := nxt
          refine ws_unp2 1 3 rfl sc_lread.nd (we_call0 GV hr (wa_cons (we_var 0 rfl (wa_cons (at1.use fun w0 H10 e10 d10 => wa_nil ⟨l, ts, kk + 1, r2, by rw [d10.int_v]; rfl, e10 _ _ (e89 _ _ hl), few, hsh, hr2, fun w H11 e11 dw => ?_⟩)))))
          obtain ⟨tl0, u1, u2, rfl, hs5, d1, d2⟩ := tup2_v dw
          obtain rfl := d1.int_v
          obtain rfl := d2.bl_v
          refine ⟨tl0, _, _, rfl, hs5, ?_⟩
          refine ws_setI 4 sc_lread.nd (vd_add (vd_var 4 rfl (.int (m : Int))) vd_int) fun H12 e12 => ws_nil ⟨⟨m + 1, r2, _, rfl, Evl.Ex.trans e89 (Evl.Ex.trans e10 (Evl.Ex.trans e11 e12)), .inr ⟨by omega, hst2⟩⟩, ?_⟩
          show (50000 - ((m : Int) + 1)).toNat < (50000 - (m : Int)).toNat
          omega
      · have hd : (okR cur && decide (ts[plc cur]? = some ("," : Str))) = false := by
          rw [Bool.and_eq_false_iff, decide_eq_false_iff_not]
          by_cases h : okR cur = true
          · exact .inr fun q => hcm ⟨h, q⟩
          · exact .inl (by simpa using h)
        rw [hd]
        refine iteF (ws_if (vt_not (vt_val (vd_var 3 rfl (.bl (okR cur))))) (fun hb H9 e9 => ?_) (fun hb H9 e9 => ws_nil ?_))
        · have e89 := Evl.Ex.trans e8' e9
          cases cur with
          | ok vk => cases hb
          | error p =>
            have hre : r = .error p := by
              rcases hst with ⟨rfl, h⟩ | ⟨h2, h⟩
              · rw [h1, ← h] at hv
                exact (Option.some.inj hv).symm
              · exact h
            subst hre
            exact ws_retD (vd_tup (va2 same vd_bl) (show 2 ≤ 100000 by decide)) fun w H4 e4 dw => k w H4 (Evl.Ex.trans e89 e4) dw
        · have e89 := Evl.Ex.trans e8' e9
          cases cur with
          | error p => cases hb
          | ok vk =>
            obtain ⟨v, kk⟩ := vk
            have hc2 : ¬ ts[kk]? = some ("," : Str) := fun q => hcm ⟨rfl, q⟩
            refine ws_retD (d := resD r) (vd_if (t := decide (1 < m) && decide (ts[kk]? = some (")" : Str))) (VW.vt (vw_and ((vt_gt (vd_var 4 rfl (.int (m : Int))) vd_int).to (by rw [decide_eq_decide]; omega)) fun _ => vw_and1 (vt_cut1 (c := ")") (i := kk) hu hsh (by decide +kernel) (vd_var 0 rfl (lD e89)) same at1))) (fun hb2 => ?_) (fun hb2 => ?_)) fun w H4 e4 dw => k w H4 (Evl.Ex.trans e89 e4) dw
            · simp only [Bool.and_eq_true, decide_eq_true_eq] at hb2
              rcases hst with ⟨rfl, rfl⟩ | ⟨h2, m', vs, hm', hb'⟩
              · exact absurd hb2.1 (by omega)
              · cases m' with
                | zero => cases hm'
                | succ m' =>
                  unfold pMore at hm'
                  rw [if_neg hc2, if_pos hb2.2] at hm'
                  obtain rfl := Option.some.inj hm'
                  exact vd_tup (va2 at1 vd_bl) (show 2 ≤ 100000 by decide)
            · have hre : r = .error kk := by
                rcases hst with ⟨rfl, rfl⟩ | ⟨h2, m', vs, hm', hb'⟩
                · rw [h1] at hv
                  simp only at hv
                  rw [if_neg hc2] at hv
                  exact (Option.some.inj hv).symm
                · cases m' with
                  | zero => cases hm'
                  | succ m' =>
                    have hb3 : ¬ ts[kk]? = some (")" : Str) := fun q => by
                      rw [decide_eq_true q, Bool.and_true] at hb2
                      exact of_decide_eq_false hb2 (by omega)
                    unfold pMore at hm'
                    rw [if_neg hc2, if_neg hb3] at hm'
                    exact (Option.some.inj hm').symm
              subst hre
              exact vd_tup (va2 same vd_bl) (show 2 ≤ 100000 by decide)
  · have hp := of_decide_eq_false ht
    rw [if_neg hp] at hv
    obtain rfl := Option.some.inj hv
    have e12 := Evl.Ex.trans e1 e2
    have tm := tok_eq (ts := ts) (i := i) (c := "-") (by decide +kernel)
    obtain ⟨s0, hs0⟩ : ∃ s0, s0 = (if ts[i]? = some ("-" : Str) then i + 1 else i) := ⟨_, rfl⟩
    refine ws_setI 5 sc_lread.nd (d := (s0 : Int)) (vd_if ((vt_eqS (vd_var 2 rfl (.str (tok ts i))) vd_str).to tm) (fun hb => ?_) (fun hb => ?_)) fun H3 e3 => ?_
    · rw [hs0, if_pos (of_decide_eq_true hb)]
      exact vd_add (vd_var 1 rfl (.int (i : Int))) vd_int
    · rw [hs0, if_neg (of_decide_eq_false hb)]
      exact vd_var 1 rfl (.int (i : Int))
    have e13 := Evl.Ex.trans e12 e3
    refine ws_setS 6 sc_lread.nd (vd_tokL T.len (vd_var 0 rfl (lD e13)) (vd_var 0 rfl (lD e13)) (vd_var 5 rfl (.int (s0 : Int))) (vd_var 5 rfl (.int (s0 : Int)))) fun H4 e4 => ?_
    have e14 := Evl.Ex.trans e13 e4
    have okT : ∀ j, (tok ts j).length ≤ 40000 ∧ PyData.strOk (tok ts j) = true := fun j => by
      unfold tok
      cases h : ts[j]? with
      | none => exact ⟨Nat.zero_le _, by decide +kernel⟩
      | some t => exact hsh t (List.mem_of_getElem? h)
    have figT : ∀ j, fFig [.str (tok ts j)] = some (.bool (numL 400 (tl (tok ts j)))) := fun j => if_pos (okT j)
    refine ws_if (VW.vt (vw_or (vt_not (vt_val (vd_call (n := 1) GF (hr.mono (by omega)) (va1 (vd_var 6 rfl (.str (tok ts s0)))) rfl (figT s0)))) fun _ => vw_or1 (VW.vt (vw_and ((vt_eqS (vd_var 2 rfl (.str (tok ts i))) vd_str).to tm) fun _ => vw_and1 (vt_eqS (vd_var 6 rfl (.str (tok ts s0))) vd_str))))) (fun hb H5 e5 => ?_) (fun hb H5 e5 => ws_nil ?_)
    · have hre : pRat ts i = .error s0 := by
        unfold pRat
        rw [← hs0]
        by_cases hn : numL 400 (tl (tok ts s0)) = true
        · rw [show pNum ts s0 = .ok (numOf (tok ts s0), s0 + 1) by unfold pNum; rw [if_pos hn]]
          simp only [hn, Bool.not_true, Bool.false_or, Bool.and_eq_true, decide_eq_true_eq] at hb
          simp only
          rw [if_pos ⟨hb.1, (num_zero hn).mp hb.2⟩, hs0, if_pos hb.1]
        · rw [show pNum ts s0 = .error s0 by unfold pNum; rw [if_neg hn]]
      rw [hre] at k
      exact ws_retD (vd_tup (va2 (vd_var 5 rfl (.int (s0 : Int))) vd_bl) (show 2 ≤ 100000 by decide)) fun w H6 e6 dw => k w H6 (Evl.Ex.trans e14 (Evl.Ex.trans e5 e6)) dw
    · have e15 := Evl.Ex.trans e14 e5
      simp only [Bool.or_eq_false_iff, Bool.not_eq_false'] at hb
      obtain ⟨hn, hb2⟩ := hb
      have hpn : pNum ts s0 = .ok (numOf (tok ts s0), s0 + 1) := by unfold pNum; rw [if_pos hn]
      have hneg : ¬ (ts[i]? = some ("-" : Str) ∧ numOf (tok ts s0) = 0) := fun q => by rw [decide_eq_true q.1, Bool.true_and] at hb2; exact of_decide_eq_false hb2 ((num_zero hn).mpr q.2)
      have s1 : ∀ {H' : Hp} {o7 o8 : Option V} {p q w : Pos}, VD (cxOf (CXg g) g.P g.w g.K g.mg g.base ["tokens", "at", "token", "right", "many", "start", "top", "low", "good"] "_law_read" (defScope s__law_read) f cdv A outer s H E) (.BinOp (.Name "start" p) .Add (.Constant (.int 1) 0 q) w) [some (.ref l), some (.int i), some (.str (tok ts i)), none, none, some (.int (s0 : Int)), some (.str (tok ts s0)), o7, o8] H' (.int ((s0 + 1 : Nat) : Int)) := fun {H' o7 o8 p q w} => vd_add (vd_var 5 rfl (.int (s0 : Int))) vd_int
      have s2 : ∀ {H' : Hp} {o7 o8 : Option V} {p q w : Pos}, VD (cxOf (CXg g) g.P g.w g.K g.mg g.base ["tokens", "at", "token", "right", "many", "start", "top", "low", "good"] "_law_read" (defScope s__law_read) f cdv A outer s H E) (.BinOp (.Name "start" p) .Add (.Constant (.int 2) 0 q) w) [some (.ref l), some (.int i), some (.str (tok ts i)), none, none, some (.int (s0 : Int)), some (.str (tok ts s0)), o7, o8] H' (.int ((s0 + 2 : Nat) : Int)) := fun {H' o7 o8 p q w} => vd_add (vd_var 5 rfl (.int (s0 : Int))) vd_int
      have s3 : ∀ {H' : Hp} {o7 o8 : Option V} {p q w : Pos}, VD (cxOf (CXg g) g.P g.w g.K g.mg g.base ["tokens", "at", "token", "right", "many", "start", "top", "low", "good"] "_law_read" (defScope s__law_read) f cdv A outer s H E) (.BinOp (.Name "start" p) .Add (.Constant (.int 3) 0 q) w) [some (.ref l), some (.int i), some (.str (tok ts i)), none, none, some (.int (s0 : Int)), some (.str (tok ts s0)), o7, o8] H' (.int ((s0 + 3 : Nat) : Int)) := fun {H' o7 o8 p q w} => vd_add (vd_var 5 rfl (.int (s0 : Int))) vd_int
      refine ws_if (VW.vt (vw_or (vt_ncut1 (c := "/") (i := s0 + 1) hu hsh (by decide +kernel) (vd_var 0 rfl (lD e15)) s1 s2) fun _ => vw_or1 (vt_eqS (vd_var 6 rfl (.str (tok ts s0))) vd_str))) (fun hb H6 e6 => ?_) (fun hb H6 e6 => ws_nil ?_)
      · have hre : pRat ts i = .ok (negD (decide (ts[i]? = some ("-" : Str))) (.int (numOf (tok ts s0))), s0 + 1) := by
          unfold pRat
          rw [← hs0, hpn]
          simp only
          rw [if_neg hneg, if_neg (fun q => by
            simp only [Bool.or_eq_true, Bool.not_eq_true', decide_eq_false_iff_not, decide_eq_true_eq] at hb
            rcases hb with h | h
            · exact h q.2
            · exact q.1 ((num_zero hn).mp h))]
        rw [hre] at k
        exact ws_retD (vd_tup (va2 s1 vd_bl) (show 2 ≤ 100000 by decide)) fun w H7 e7 dw => k w H7 (Evl.Ex.trans e15 (Evl.Ex.trans e6 e7)) dw
      · simp only [Bool.or_eq_false_iff, Bool.not_eq_false', decide_eq_true_eq, decide_eq_false_iff_not] at hb
        have hpos : numOf (tok ts s0) ≠ 0 ∧ ts[s0 + 1]? = some ("/" : Str) := ⟨fun q => hb.2 ((num_zero hn).mpr q), hb.1⟩
        have e16 := Evl.Ex.trans e15 e6
        refine ws_setS 7 sc_lread.nd (vd_tokL T.len (vd_var 0 rfl (lD e16)) (vd_var 0 rfl (lD e16)) s2 s2) fun H7 e7 => ?_
        have n1 := num_of hn
        refine ws_setB 8 sc_lread.nd (d := numL 400 (tl (tok ts (s0 + 2))) && isRatio (.tuple [.int (numOf (tok ts s0)), .int (numOf (tok ts (s0 + 2)))])) (vd_and (vd_call (n := 1) GF (hr.mono (by omega)) (va1 (vd_var 7 rfl (.str (tok ts (s0 + 2))))) rfl (figT (s0 + 2))) fun hn2 => ?_) fun H8 e8 => ?_
        · have n2 := num_of hn2
          have z : isRatio (.tuple [.int (numOf (tok ts s0)), .int (numOf (tok ts (s0 + 2)))]) = (decide ((1 : Int) < numOf (tok ts (s0 + 2))) && decide (((Nat.gcd (numOf (tok ts s0)).natAbs (numOf (tok ts (s0 + 2))).natAbs : Nat) : Int) = 1)) := by
            show (decide (1 < _) && decide (Nat.gcd _ _ = 1)) = _
            congr 1
            exact decide_eq_decide.mpr ⟨fun h => by rw [h]; rfl, fun h => by omega⟩
          rw [z]
          exact vd_and (vd_gt (vd_intS T.int (vd_var 7 rfl (.str _)) n2.2.1 (by omega)) vd_int) fun _ => vd_one (vd_eq (vd_call (n := 2) (r := .int (Nat.gcd (numOf (tok ts s0)).natAbs (numOf (tok ts (s0 + 2))).natAbs : Nat)) GD (hr.mono (by omega)) (va2 (vd_intS T.int (vd_var 6 rfl (.str _)) n1.2.1 (by omega)) (vd_intS T.int (vd_var 7 rfl (.str _)) n2.2.1 (by omega))) rfl rfl) vd_int)
        · generalize hgd : (numL 400 (tl (tok ts (s0 + 2))) && isRatio (.tuple [.int (numOf (tok ts s0)), .int (numOf (tok ts (s0 + 2)))])) = gd
          have e18 := Evl.Ex.trans e16 (Evl.Ex.trans e7 e8)
          refine ws_ret (we_if (vt_val (vd_var 8 rfl (.bl gd))) (fun hg9 H9 e9 => ?_) (fun hg9 H9 e9 => ?_))
          · rw [hg9, Bool.and_eq_true] at hgd
            have hp2 : pNum ts (s0 + 1 + 1) = .ok (numOf (tok ts (s0 + 2)), s0 + 3) := by unfold pNum; rw [if_pos hgd.1]
            have hre : pRat ts i = .ok (negD (decide (ts[i]? = some ("-" : Str))) (.tuple [.int (numOf (tok ts s0)), .int (numOf (tok ts (s0 + 2)))]), s0 + 3) := by
              unfold pRat
              rw [← hs0, hpn]
              simp only
              rw [if_neg hneg, if_pos hpos, hp2]
              simp only
              rw [if_pos hgd.2]
            rw [hre] at k
            exact (vd_tup (va2 s3 vd_bl) (show 2 ≤ 100000 by decide)).use fun w H10 e10 dw => k w H10 (Evl.Ex.trans e18 (Evl.Ex.trans e9 e10)) dw
          · have hre : pRat ts i = .error (s0 + 2) := by
              unfold pRat
              rw [← hs0, hpn]
              simp only
              rw [if_neg hneg, if_pos hpos]
              by_cases hn2 : numL 400 (tl (tok ts (s0 + 1 + 1))) = true
              · rw [show pNum ts (s0 + 1 + 1) = .ok (numOf (tok ts (s0 + 2)), s0 + 3) by unfold pNum; rw [if_pos hn2]]
                rw [hg9, show numL 400 (tl (tok ts (s0 + 2))) = true from hn2, Bool.true_and] at hgd
                simp only
                rw [if_neg (by rw [hgd]; exact Bool.false_ne_true)]
              · rw [show pNum ts (s0 + 1 + 1) = .error (s0 + 1 + 1) by unfold pNum; rw [if_neg hn2]]
            rw [hre] at k
            exact (vd_tup (va2 s2 vd_bl) (show 2 ≤ 100000 by decide)).use fun w H10 e10 dw => k w H10 (Evl.Ex.trans e18 (Evl.Ex.trans e9 e10)) dw
theorem ok_lread (T : Nm g.mg) (F : FT g "_law_read" s__law_read) (GF : Fd g "_law_is_figures" ["word"] 1 (spF g.K 1 fFig)) (GD : Fd g "_law_divisor" ["one", "other"] 1 (spF g.K 2 fDiv)) : ∀ n, Fd g "_law_read" ["tokens", "at"] (n + 2) (spRead g.K n)
  | 0 => (fd_vac F (fun vs H Q E ⟨l, ts, i, r, _, _, _, _, h, _⟩ => by cases h) (fun _ _ _ _ _ _ us hl => match us, hl with | [_, _], _ => rfl)).mono (by omega)
  | n + 1 => st_lread T F GF GD n (ok_lread T F GF GD n)
end
end G

/-! # X1: an exception that is held, asked for its class and its fields; defs that are handed it -/
namespace G
open PySem PySem.Spec PyProof.Rows L2
section
open PySem.W PySem.Calls
variable {prog : Program} {w : World} {A : Around} {E : Value → Shared → Prop} {s : Shared} {K : Frag} {x D : Addr} {ox : Obj} {od : Option Obj}
theorem findClass {g a : Value} (C : ExcC K D) : findObj K D od "__class__" = some (.bind (.builtin "getset_descriptor.__get__") (.builtin "object.__class__")) := by
  obtain ⟨cd, hc, _⟩ := any_some C.hd
  unfold findObj; rw [hc, Option.bind_some, C.ha, Option.bind_some]
  simp [C.hn, C.ht]
theorem classOf {Q : Option Value → Shared → Prop} (C : ExcC K D) (kn : K.In s.heap) (at_ : InstAt s.heap x ox D od) (fin : Q (some (.ref D)) { s with toks := s.toks + 1 }) : wpAny (model prog w) A (getAttr? (.ref x) "__class__") Q E s := by
  have hf := findClass (od := od) (g := .none) (a := .none) C
  obtain ⟨h0, g0, d0, t0, o0⟩ := s
  have z0 := at_.type (M := model prog w)
  have z1 := looks_findIn (M := model prog w) kn C.hg
  have z2 := looks_findIn (M := model prog w) kn C.hk
  have z3 := looks_find (M := model prog w) kn at_ hf
  have isb : Looks (model prog w) h0 (isInstance (.ref x) (.type "BaseException")) true := z0.andThen (looks_subIn kn C.hs)
  have f0 : (false && onTheHeap (Value.builtin "BaseException.__getattribute__")) = false := rfl
  have f2 : (Value.builtin "BaseException.__getattribute__" == Value.builtin "object.__getattribute__") = false := by decide +kernel
  have f1 : (onTheHeap (Value.ref D) && Value.builtin "BaseException.__getattribute__" == Value.builtin "object.__getattribute__") = false := by rw [f2]; rfl
  unfold getAttr? getAttrBy? getAttrBy; refine wpAny_bind (wpAny_mkText (wpAny_bind (wpAny_attempt (wpAny_holding (wpAny_bind (z0.at (wpAny_bind (z1.at ?_))))))))
  change wpAny _ _ (if (onTheHeap (Value.ref D) && Value.builtin "BaseException.__getattribute__" == Value.builtin "object.__getattribute__") = true then _ else _) _ _ _
  rw [f1, if_neg Bool.false_ne_true]; unfold getAttrByItsOwn hookBefore
  refine wpAny_bind ?_
  rw [if_pos (show onTheHeap (Value.ref D) = true from rfl)]; refine z2.at (wpAny_bind (wpAny_attempt (wpAny_holding ?_)))
  unfold callGetattribute; rw [f0, if_neg Bool.false_ne_true]
  unfold boundAndCalled; rw [PySem.F.excAttr_ValueError.ga.bind (.ref x)]
  refine wpAny_bind (wpAny_pure ?_)
  change wpAny _ _ (call (.builtin "BaseException.__getattribute__") [.ref x, .str "__class__" t0]) _ _ _
  refine wpAny_call (codeAny_call_builtin PySem.F.excAttr_ValueError.ga.plain PySem.F.entry_bexc_ga (@check_slot (model prog w) _ _ ⟨h0, g0, d0, t0 + 1, o0⟩ "BaseException.__getattribute__" "BaseException" "__getattribute__" (.ref x) [.str "__class__" t0] [] _ (by decide +kernel) (by decide +kernel) isb (PySem.F.args_bexc_ga (.ref x) (.str "__class__" t0)) ?_))
  unfold Builtin.«object.__getattribute__»; refine wpAny_bind (wpAny_of_eq (a := ((Value.ref x : Value), [Value.str "__class__" t0])) (by first | rfl | (simp only [slotArgs]; rfl)) ?_)
  refine wpAny_bind (wpAny_pure (wpAny_bind (z0.at (wpAny_bind (z3.at ?_)))))
  change wpAny _ _ (holding [Value.builtin "object.__class__"] (call (.builtin "getset_descriptor.__get__") [.builtin "object.__class__", .ref x, .ref D]) >>= ret) _ _ _
  refine wpAny_bind (wpAny_holding (wpAny_call (class_get (s := ⟨h0, g0, d0, t0 + 1, o0⟩) (ox := ox) (od := od) kn at_ C.hm (wpAny_pure ?_))))
  change wpAny _ _ (handedOut (.ref D)) _ _ _
  rw [handedOut_of (v := .ref D) rfl]
  first
    | exact wpAny_pure (wpAny_pure fin)
    | exact wpAny_pure fin
    | exact wpAny_pure (wpAny_bind (wpAny_pure (wpAny_pure fin)))
theorem kitE (C : ExcC K D) : KitX K (.ref x) (.ref D) (fun h => InstAt h x ox D od) where
  ty := fun _ _ _ i => i.type
  it := fun _ _ kn _ => by
    obtain ⟨cd, hc, _⟩ := any_some C.hd
    unfold clsIn at hc
    split at hc
    next ho => (intro A2 Q2 E2 s2 k q; unfold isType loadHead; exact wpAny_bind (wpAny_loadPart (k _ _ (kn _ _ ho)) (wpAny_pure q)))
    next => cases hc
  ne := fun h tp dd its n sl kn htp => by
    obtain ⟨cd, hc, _⟩ := any_some C.hd
    refine Bool.eq_false_iff.mpr fun q => ?_
    obtain rfl : D = tp := Value.ref.inj (beq_iff_eq.mp q)
    unfold clsIn at hc
    split at hc
    next ho => (have z := (kn _ _ ho).symm.trans htp; cases z)
    next => cases hc
  ca := fun kn i k => classOf C kn i k
end
/-- the exception a, of the class C, its dict at d, stands in the context -/
def Pd (X : Cx) (a C d : Addr) : Prop := ∃ oe : Obj, (a, oe) ∈ X.pn ∧ Zc (.ref C) (some d) oe ∧ ∃ vs, oe.data = .fields vs
theorem Pd.at_ {X : Cx} {a C d : Addr} (p : Pd X a C d) {pins : List (Addr × Obj)} {σ : St} {H : Hp} {s : Shared} {fs : List (Str × V)} (I : Inv X pins σ H s) (hd : H d = some (.xd fs)) : ∃ (oe od : Obj) (mA : Str → Option Value), PySem.W.InstAt s.heap a oe C (some od) ∧ (∀ f, PySem.W.lookIn f od = some (mA f)) ∧ ∀ f, RelO (fs.lookup f) (mA f) := by
  obtain ⟨oe, hm, hz, vs, hv⟩ := p
  obtain ⟨ha, _⟩ := I.pin (a, oe) (List.mem_append_left _ hm)
  have hx : ObjOk X.prog X.w H s.heap d (.xd fs) := I.hok d _ hd
  obtain ⟨mA, hns, hr⟩ := hx
  obtain ⟨od, ho, hl⟩ := lookIn_ns hns
  exact ⟨oe, od, mA, ⟨ha, hz.1, (by unfold PySem.W.notCls; rw [hv] <;> rfl), by rw [hz.2]; exact ho⟩, hl, hr⟩
/-- isinstance(e, c), e the exception that is held -/
def rIsX (K : PySem.W.Frag) (a C d : Addr) : List V → Hp → VK → Prop := fun xs H Q => ∃ (c : V) (cv : Value) (b : Bool) (fs : List (Str × V)), xs = [.ref a, c] ∧ (∀ u, RelV c u → u = cv) ∧ PySem.W.kitOne K (.ref C) cv = some b ∧ H d = some (.xd fs) ∧ Q (.bl b) H
theorem call_isX {X : Cx} {a C d : Addr} (EC : ExcC X.K C) (p : Pd X a C d) : CallR X (.builtin "isinstance") (rIsX X.K a C d) := by
  intro pins s σ H xs us Q I r h
  obtain ⟨c, cv, b, fs, rfl, hcv, e, hd, q⟩ := h
  cases r with
  | cons rx rr =>
    cases rr with
    | cons rt rr =>
      cases rr
      cases rx
      obtain rfl := hcv _ rt
      obtain ⟨oe, od, mA, J, _⟩ := p.at_ I hd
      exact PySem.W.kia_one (kitE EC) I.kIn J e (fun z => nomatch z) fun tk => ⟨.bl b, H, I.kept (t' := tk) (fun _ _ z => z), rfl, q⟩
section
variable {X : Cx} {e o : Expr} {σ : St} {H : Hp} {Q : VK} {pos p q : Pos} {f x : Str} {a C d : Addr}
/-- a field of the exception that is held -/
theorem we_efld (EC : ExcC X.K C) (pd : Pd X a C d) (nf : PySem.W.findIn X.K (.ref C) f = some none) (h : WE X e σ H fun v H1 => v = .ref a ∧ ∃ fs w, H1 d = some (.xd fs) ∧ fs.lookup f = some w ∧ Q w H1) (hb : attributeBase e f X.env (eval e X.env) = eval e X.env := by rfl) : WE X (.Attribute e f pos) σ H Q := fun pins s I =>
  attr_of hb (thn (h pins s I) fun u s1 ⟨x, H1, I1, rx, ex, fs, w, hd, hl, q⟩ => by
    subst ex
    obtain rfl : u = Value.ref a := rx
    obtain ⟨oe, od, mA, J, hlk, hr⟩ := pd.at_ I1 hd
    obtain ⟨y, hy, ry⟩ := RelO.some_of (v := w) (o := mA f) (by rw [← hl]; exact hr f)
    exact HandSPX.exc_get I1.kIn J EC.hg EC.hk EC.hs (PySem.W.findObj_own EC.hd nf rfl (by rw [hlk f, hy])) (handed_of ry) ⟨w, H1, I1.tok _, ry, q⟩)
/-- isinstance(e, T), T a class of the program -/
theorem we_isX {D : Addr} {T : Str} {b : Bool} {tp : Pos} (EC : ExcC X.K C) (pd : Pd X a C d) (hm : X.mg "isinstance" = none) (hT : X.mg T = some (.ref D)) (hk : PySem.W.kitOne X.K (.ref C) (.ref D) = some b) (h : WE X o σ H fun v H1 => v = .ref a ∧ ∃ fs, H1 d = some (.xd fs) ∧ Q (.bl b) H1) (hg : Gl X "isinstance" := by rfl) (hgT : Gl X T := by rfl) (hdb : (T == ("__debug__" : Str)) = false := by decide)
    (he : starEach [o, .Name T tp] X.env = (false, eval o X.env) :: starEach [.Name T tp] X.env := by rfl) (he2 : starEach [.Name T tp] X.env = (false, eval (.Name T tp) X.env) :: starEach [] X.env := by rfl) (hpl : (backTo pos (starEach [.Name T tp] X.env)).any (·.1) = false := by rfl) : WE X (.Call (.Name "isinstance" p) [o, .Name T tp] [] pos) σ H Q :=
  we_callB (call_isX EC pd) hm (by decide +kernel) (wa_cons (h.mono fun v H1 ⟨ev, fs, hd, z⟩ => wa_cons (we_cls hT (wa_nil ⟨.ref D, .ref D, b, fs, by rw [ev], fun u r => r, hk, hd, z⟩) hgT hdb) he2) he) hg (by decide) (by decide) he hpl
end
end G

/-! # X2: defs that ask more of where they are called: what repr guards, which exception is held -/
namespace G
open PySem PySem.Spec PyProof.Rows L2
abbrev PinOk := L2H.PinOk
abbrev RoomH := L2H.RoomH
section
variable {P : Program} {w : World} {K : PySem.W.Frag} {mg : Str → Option Value} {base : Heap} {CX : CXT} {k : Nat} {f : Addr} {name qual : Str} {params : Arguments} {body : List Stmt} {scope : Scope} {dV kV doc pm cdv ct oc : Value} {an od : Option Addr} {osl : Array (Option Value)} {N ps : List Str}
/-- a body's context, calm or not, with pinned objects -/
def cxB (cm : Bool) (pn : List (Addr × Obj)) (CX : CXT) (P : Program) (w : World) (K : PySem.W.Frag) (mg : Str → Option Value) (base : Heap) (N : List Str) (qual : Str) (scope : Scope) (f : Addr) (cd : Value) (A : Around) (outer : List Env) (s : Shared) (H : Hp) (E : XK) : Cx := { cxOf CX P w K mg base N qual scope f cd A outer s H E with calm := cm, pn := pn }
/-- a call of a def, once its body is known to run from the start of the call -/
theorem callRuns {cm : Bool} {pn : List (Addr × Obj)} {A : Around} {outer : List Env} {s : Shared} {H : Hp} {args : Args} {us : List Value} {vs : List V} {Q : VK} {E : XK} (lk : K.lookup f = some ⟨oc, od, .func (PySem.W.fnOf name qual params body scope dV kV doc pm an cdv ct), osl⟩) (hcd : PySem.W.codeIn K cdv qual = true) (S : FnScope N ps scope) (hdep : A.depth < recursionLimit) (e0 : Env0 P w K mg base A outer s H)
    (hb : BindsTo s (PySem.W.fnOf name qual params body scope dV kV doc pm an cdv ct) args (ps.zip us))
    (hI : ∀ s1, InCallC s s.heap.objs.size (bindL (envOfC qual scope s.heap.objs.size f cdv).kindOf (ps.zip us) fun _ => none) (cellsFrom (s.heap.objs.size + 1) scope.names []) (bindC (envOfC qual scope s.heap.objs.size f cdv).kindOf (ps.zip us) fun _ => none) s1 → Inv (cxB cm pn CX P w K mg base N qual scope f cdv A outer s H E) [] (L2.start N vs) H s1)
    (hW : WS (cxB cm pn CX P w K mg base N qual scope f cdv A outer s H E) body { nx := fun _ H' => Q .non H', rt := Q } (L2.start N vs) H) : codeAny (model P w) A (.call (.ref f) args) (CR CX outer P w H s Q E) s := by
  have kin : K.In s.heap := e0.mod.kin.keeps fun b o z => (e0.bs b o z).1
  have nol : s.heap.NoLimit := e0.mod.nolimit.keeps fun b o z => (e0.bs b o z).1
  have kinds : ∀ y ∈ ps.zip us, scope.names.lookup y.1 = some .local ∨ (scope.names.lookup y.1 = some .cell ∧ ((cellsFrom (s.heap.objs.size + 1) scope.names []).lookup y.1).isSome = true) := fun y hy => (S.par y.1 (List.of_mem_zip (a := y.1) (b := y.2) hy).1).imp id fun z => ⟨z, PySem.W.cellsFrom_some _ _ _ (.inl z)⟩
  refine codeAny_call_function hdep (kin _ _ lk) rfl S.co S.gen rfl (PySem.W.codeRec_of kin hcd) (hb _ _ _ _ (wpAny_newFunctionEnv_cells S.kind kinds fun env he s1 x => ?_))
  subst he
  refine ⟨nol.keeps x.toInCall.keep, codeAny_func (wpAny_mono (hW [] s1 (hI s1 x)) (fun fl s2 ends => ?_) fun _ _ z => z)⟩
  cases fl with
  | next => exact (let ⟨σ2, H2, J, q⟩ := ends; ⟨V.non, H2, J.os, J.bare, J.base, J.hok, rfl, q⟩)
  | ret u => exact (let ⟨v, σ2, H2, J, rv, q⟩ := ends; ⟨v, H2, J.os, J.bare, J.base, J.hok, rv, q⟩)
  | brk => exact (let ⟨_, _, _, q⟩ := ends; False.elim q)
  | cont => exact (let ⟨_, _, _, q⟩ := ends; False.elim q)
end
/-- a def that promises where nothing is being shown -/
structure FnG (P : Program) (w : World) (K : PySem.W.Frag) (mg : Str → Option Value) (base : Heap) (CX : CXT) (k : Nat) (f : Addr) (fd : FuncData) (ps : List Str) (sp : Sp) : Prop where
  len : ∀ vs H Q E, sp vs H Q E → vs.length = ps.length
  run : ∀ (A : Around) (outer : List Env) (s : Shared) (H : Hp) (args : Args) (us : List Value) (vs : List V) (Q : VK) (E : XK), A.guards = some [] → Room k A → Env0 P w K mg base A outer s H → BindsTo s fd args (ps.zip us) → Vals vs us → sp vs H Q E → codeAny (model P w) A (.call (.ref f) args) (CR CX outer P w H s Q E) s
/-- a def that promises within an except suite: of the exception that is held; φ of where -/
structure FnE (φ : Around → Prop) (P : Program) (w : World) (K : PySem.W.Frag) (mg : Str → Option Value) (base : Heap) (CX : CXT) (k : Nat) (f : Addr) (fd : FuncData) (ps : List Str) (sp : Addr × Obj → Sp) : Prop where
  len : ∀ p vs H Q E, sp p vs H Q E → vs.length = ps.length
  run : ∀ (A : Around) (outer : List Env) (s : Shared) (H : Hp) (args : Args) (us : List Value) (vs : List V) (Q : VK) (E : XK) (p : Addr × Obj), φ A → RoomH k A → PinOk outer H s p → Env0 P w K mg base A outer s H → BindsTo s fd args (ps.zip us) → Vals vs us → sp p vs H Q E → codeAny (model P w) A (.call (.ref f) args) (CR CX outer P w H s Q E) s
/-- as Fd, of such defs -/
def FdG (g : Gd) (x : Str) (ps : List Str) (k : Nat) (sp : Sp) : Prop := ∃ (f : Addr) (fd : FuncData), FnG g.P g.w g.K g.mg g.base (CXg g) k f fd ps sp ∧ g.mg x = some (.ref f) ∧ PySem.W.keepIn g.K (.ref f) = true ∧ Binds g.K fd ps []
def FdE (φ : Around → Prop) (g : Gd) (x : Str) (ps : List Str) (k : Nat) (sp : Addr × Obj → Sp) : Prop := ∃ (f : Addr) (fd : FuncData), FnE φ g.P g.w g.K g.mg g.base (CXg g) k f fd ps sp ∧ g.mg x = some (.ref f) ∧ PySem.W.keepIn g.K (.ref f) = true ∧ Binds g.K fd ps []
section
variable {g : Gd} {x qual : Str} {st : Stmt} {N ps : List Str} {k : Nat}
theorem fdg_of {sp : Sp} (F : FT g x st) (S : FnScope N ps (defScope st)) (len : ∀ vs H Q E, sp vs H Q E → vs.length = ps.length)
    (hb : ∀ (kV doc pm : Value) (an : Option Addr) (cdv ct : Value) (us : List Value), us.length = ps.length → bindArgs (PySem.W.fnOf x x (defArgs st) (defBody st) (defScope st) .none kV doc pm an cdv ct) ⟨us, []⟩ = pure (ps.zip us))
    (body : ∀ (f : Addr) (cdv : Value) (A : Around) (outer : List Env) (s : Shared) (H : Hp) (vs : List V) (Q : VK) (E : XK), A.guards = some [] → Room k (A.deeper (envOfC x (defScope st) s.heap.objs.size f cdv)) → sp vs H Q E → WS (cxOf (CXg g) g.P g.w g.K g.mg g.base N x (defScope st) f cdv A outer s H E) (defBody st) { nx := fun _ H' => Q .non H', rt := Q } (L2.start N vs) H) : FdG g x ps (k + 1) sp := by
  obtain ⟨f, fd, F, hm⟩ := F
  obtain ⟨oc, od, dV, kV, doc, pm, an, cdv, ct, osl, rfl, lk, hcd, _, _⟩ := id F.ex
  refine ⟨f, PySem.W.fnOf x x (defArgs st) (defBody st) (defScope st) dV kV doc pm an cdv ct, ⟨len, fun A outer s H args us vs Q E hg hr e0 hbi r hsp => ?_⟩, hm, F.kp, fun s us _ hl => ?_⟩
  · exact callRuns (cm := true) (pn := []) lk hcd S hr.depth e0 hbi (fun s1 y => inv_start S hr.hd e0 (len _ _ _ _ hsp) r y) (body f cdv A outer s H vs Q E hg (hr.deeper _) hsp)
  · rw [List.append_nil] at hl ⊢
    exact FunD.bindsA (ps := ps) F hb s us hl
theorem fde_of {φ : Around → Prop} {sp : Addr × Obj → Sp} (F : FT g x st) (S : FnScope N ps (defScope st)) (len : ∀ p vs H Q E, sp p vs H Q E → vs.length = ps.length)
    (hb : ∀ (kV doc pm : Value) (an : Option Addr) (cdv ct : Value) (us : List Value), us.length = ps.length → bindArgs (PySem.W.fnOf x x (defArgs st) (defBody st) (defScope st) .none kV doc pm an cdv ct) ⟨us, []⟩ = pure (ps.zip us))
    (body : ∀ (f : Addr) (cdv : Value) (A : Around) (outer : List Env) (s : Shared) (H : Hp) (vs : List V) (Q : VK) (E : XK) (p : Addr × Obj), φ A → RoomH k (A.deeper (envOfC x (defScope st) s.heap.objs.size f cdv)) → sp p vs H Q E → WS (cxB false [p] (CXg g) g.P g.w g.K g.mg g.base N x (defScope st) f cdv A outer s H E) (defBody st) { nx := fun _ H' => Q .non H', rt := Q } (L2.start N vs) H) : FdE φ g x ps (k + 1) sp := by
  obtain ⟨f, fd, F, hm⟩ := F
  obtain ⟨oc, od, dV, kV, doc, pm, an, cdv, ct, osl, rfl, lk, hcd, _, _⟩ := id F.ex
  refine ⟨f, PySem.W.fnOf x x (defArgs st) (defBody st) (defScope st) dV kV doc pm an cdv ct, ⟨len, fun A outer s H args us vs Q E p hg hr hp e0 hbi r hsp => ?_⟩, hm, F.kp, fun s us _ hl => ?_⟩
  · exact callRuns (cm := false) (pn := [p]) lk hcd S hr.depth e0 hbi (fun s1 y => L2H.inv_startH S hp e0 (len _ _ _ _ _ hsp) r y) (body f cdv A outer s H vs Q E p hg (hr.deeper _) hsp)
  · rw [List.append_nil] at hl ⊢
    exact FunD.bindsA (ps := ps) F hb s us hl
end
section
variable {X : Cx} {k : Nat} {x : Str} {ps : List Str} {e : Expr} {es : List Expr} {σ : St} {H : Hp} {Q : VK} {p pos : Pos} {E : XK}
theorem we_callG {sp : Sp} (F : FdG (Cxg X) x ps k sp) (hgd : X.A.guards = some []) (hr : Room k X.A) (hx : Passes (L2.CX X.prog X.w) X E) (h : WA X (e :: es) σ H fun vs H1 => sp vs H1 Q E) (hg : Gl X x := by rfl) (hdb : (x == ("__debug__" : Str)) = false := by decide)
    (he : starEach (e :: es) X.env = (false, eval e X.env) :: starEach es X.env := by rfl) (hpl : (backTo pos (starEach es X.env)).any (·.1) = false := by rfl) : WE X (.Call (.Name x p) (e :: es) [] pos) σ H Q := fun pins s I => by
  obtain ⟨f, fd, ok, hm, hk, hb⟩ := F
  refine wpAny_Call_Name_kw (ld_glob I hg hm (PySem.W.callWith_K (h₀ := X.base) I.ok.mod.kin hk (thn (h pos pins s I) fun us s1 ⟨vs, H1, I1, r, q⟩ => ⟨I1.kIn, ?_⟩) he hpl) hdb)
  have hl : us.length = ps.length := by rw [← r.length]; exact ok.len _ _ _ _ q
  have b := hb s1 us I1.kIn (by rw [List.append_nil]; exact hl)
  rw [List.append_nil] at b
  refine wpAny_call (codeAny_mono (ok.run X.A X.stack s1 H1 ⟨us, []⟩ us vs Q E hgd hr I1.env0 b r q) fun res s2 z => ?_)
  cases res with
  | error y => exact hx pins σ H1 s1 y s2 I1 z
  | ok fl =>
    cases fl with
    | ret u => exact I1.after z
    | _ => exact False.elim z
theorem we_callE {φ : Around → Prop} {sp : Addr × Obj → Sp} {pp : Addr × Obj} (F : FdE φ (Cxg X) x ps k sp) (hφ : φ X.A) (hr : RoomH k X.A) (hpp : pp ∈ X.pn) (hx : Passes (L2.CX X.prog X.w) X E) (h : WA X (e :: es) σ H fun vs H1 => sp pp vs H1 Q E) (hg : Gl X x := by rfl) (hdb : (x == ("__debug__" : Str)) = false := by decide)
    (he : starEach (e :: es) X.env = (false, eval e X.env) :: starEach es X.env := by rfl) (hpl : (backTo pos (starEach es X.env)).any (·.1) = false := by rfl) : WE X (.Call (.Name x p) (e :: es) [] pos) σ H Q := fun pins s I => by
  obtain ⟨f, fd, ok, hm, hk, hb⟩ := F
  refine wpAny_Call_Name_kw (ld_glob I hg hm (PySem.W.callWith_K (h₀ := X.base) I.ok.mod.kin hk (thn (h pos pins s I) fun us s1 ⟨vs, H1, I1, r, q⟩ => ⟨I1.kIn, ?_⟩) he hpl) hdb)
  have hl : us.length = ps.length := by rw [← r.length]; exact ok.len _ _ _ _ _ q
  have b := hb s1 us I1.kIn (by rw [List.append_nil]; exact hl)
  rw [List.append_nil] at b
  have z1 := I1.pin pp (List.mem_append_left _ hpp)
  have pin : PinOk X.stack H1 s1 pp := ⟨z1.1, z1.2.1, fun hm2 => (List.mem_cons.mp (I1.stkSub pp.1 hm2)).elim z1.2.2.1 z1.2.2.2.1, z1.2.2.2.2⟩
  refine wpAny_call (codeAny_mono (ok.run X.A X.stack s1 H1 ⟨us, []⟩ us vs Q E pp hφ hr pin I1.env0 b r q) fun res s2 z => ?_)
  cases res with
  | error y => exact hx pins σ H1 s1 y s2 I1 z
  | ok fl =>
    cases fl with
    | ret u => exact I1.after z
    | _ => exact False.elim z
end
end G

/-! # X3: what the law tells of an error -/
namespace G
open PySem PySem.Spec PyProof.Rows L2
def exNames : List Str := excN.map (·.1)
/-- the errors of the program, as the head tells them -/
structure EXs (K : PySem.W.Frag) (mg : Str → Option Value) (ca : Str → Addr) : Prop where
  at_ : ∀ x ∈ exNames, mg x = some (.ref (ca x)) ∧ ExcC K (ca x) ∧ OexC K (ca x)
  kit : ∀ x ∈ exNames, ∀ y ∈ exNames, PySem.W.kitOne K (.ref (ca x)) (.ref (ca y)) = some (x == y || y == "GenusError")
  ve : ∀ x ∈ exNames, PySem.W.kitOne K (.ref (ca x)) (.type "ValueError") = some true
  exm : ∀ x ∈ exNames, PySem.W.exmOne K (.ref (ca x)) (.ref (ca "GenusError")) = some true
  fld : ∀ p ∈ excN, ∀ f ∈ p.2, PySem.W.findIn K (.ref (ca p.1)) f = some none
/-- the exception p is of the class x, with the dict d -/
def PinX (ca : Str → Addr) (x : Str) (d : Addr) (p : Addr × Obj) : Prop := Zc (.ref (ca x)) (some d) p.2 ∧ ∃ vs, p.2.data = .fields vs
section
variable {X : Cx} {ca : Str → Addr} {x T : Str} {d : Addr} {pp : Addr × Obj} {σ : St} {H : Hp} {D : Ends} {rest body : List Stmt} {pos p q tp r : Pos} {e : Str} {fs : List (Str × V)}
theorem PinX.pd (h : PinX ca x d pp) (hm : pp ∈ X.pn) : Pd X pp.1 (ca x) d := ⟨pp.2, hm, h.1, h.2⟩
theorem wt_isX (j : Nat) {b : Bool} {Q : Bool → Hp → Prop} (ex : EXs X.K X.mg ca) (hp : PinX ca x d pp) (hm : pp ∈ X.pn) (hx : x ∈ exNames) (hT : T ∈ exNames) (hb : (x == T || T == "GenusError") = b) (h0 : σ[j]? = some (some (.ref pp.1))) (hd : H d = some (.xd fs)) (mi : X.mg "isinstance" = none) (k : Q b H) (hN : X.N[j]? = some e := by rfl) (hv : Vis X.env.scope e := by first | exact Or.inl rfl | exact Or.inr (Or.inl rfl) | exact Or.inr (Or.inr rfl))
    (h1 : (e == ("__debug__" : Str)) = false := by decide) (h2 : (e == ("__classdict__" : Str)) = false := by decide) (hg : Gl X "isinstance" := by rfl) (hgT : Gl X T := by rfl) (hdb : (T == ("__debug__" : Str)) = false := by decide)
    (he : starEach [.Name e r, .Name T tp] X.env = (false, eval (.Name e r) X.env) :: starEach [.Name T tp] X.env := by rfl) (he2 : starEach [.Name T tp] X.env = (false, eval (.Name T tp) X.env) :: starEach [] X.env := by rfl) (hpl : (backTo pos (starEach [.Name T tp] X.env)).any (·.1) = false := by rfl)
    (ht : ∀ whole, isTrue (.Call (.Name "isinstance" p) [.Name e r, .Name T tp] [] pos) X.env whole = (do let v ← whole; standAt (Expr.Call (.Name "isinstance" p) [.Name e r, .Name T tp] [] pos).pos; holding [v] (truthy v)) := by intro _; rfl) : WT X (.Call (.Name "isinstance" p) [.Name e r, .Name T tp] [] pos) σ H Q :=
  wt_val (we_isX (ex.at_ x hx).2.1 (hp.pd hm) mi (ex.at_ T hT).1 (by rw [ex.kit x hx T hT, hb]) (we_var j h0 ⟨rfl, fs, hd, b, rfl, k⟩ hN hv h1 h2) hg hgT hdb he he2 hpl) ht
/-- if isinstance(e, T): .., where e is of another class -/
theorem ws_notX (j : Nat) (ex : EXs X.K X.mg ca) (hp : PinX ca x d pp) (hm : pp ∈ X.pn) (hx : x ∈ exNames) (hT : T ∈ exNames) (hb : (x == T || T == "GenusError") = false) (h0 : σ[j]? = some (some (.ref pp.1))) (hd : H d = some (.xd fs)) (mi : X.mg "isinstance" = none) (k : WS X rest D σ H) (hN : X.N[j]? = some e := by rfl) (hv : Vis X.env.scope e := by first | exact Or.inl rfl | exact Or.inr (Or.inl rfl) | exact Or.inr (Or.inr rfl))
    (h1 : (e == ("__debug__" : Str)) = false := by decide) (h2 : (e == ("__classdict__" : Str)) = false := by decide) (hg : Gl X "isinstance" := by rfl) (hgT : Gl X T := by rfl) (hdb : (T == ("__debug__" : Str)) = false := by decide)
    (he : starEach [.Name e r, .Name T tp] X.env = (false, eval (.Name e r) X.env) :: starEach [.Name T tp] X.env := by rfl) (he2 : starEach [.Name T tp] X.env = (false, eval (.Name T tp) X.env) :: starEach [] X.env := by rfl) (hpl : (backTo pos (starEach [.Name T tp] X.env)).any (·.1) = false := by rfl)
    (ht : ∀ whole, isTrue (.Call (.Name "isinstance" p) [.Name e r, .Name T tp] [] pos) X.env whole = (do let v ← whole; standAt (Expr.Call (.Name "isinstance" p) [.Name e r, .Name T tp] [] pos).pos; holding [v] (truthy v)) := by intro _; rfl) : WS X (.If (.Call (.Name "isinstance" p) [.Name e r, .Name T tp] [] pos) body [] q :: rest) D σ H :=
  ws_ifW (wt_isX j ex hp hm hx hT hb h0 hd mi (iteF (ws_nil k)) hN hv h1 h2 hg hgT hdb he he2 hpl ht)
end
/-- it is neither of these -/
def spMore (K : PySem.W.Frag) (ca : Str → Addr) : Addr × Obj → Sp := fun p vs H Q _ => vs = [.ref p.1] ∧ ∃ x d fs, x ∈ (["BadText", "BadRow"] : List Str) ∧ PinX ca x d p ∧ H d = some (.xd fs) ∧ ∀ w H', Ex H H' → DpL K H' w [] → Q w H'
section
variable {g : Gd} {ca : Str → Addr} {φ : Around → Prop}
theorem sc_more : FnScope ["e", "found"] ["e"] (defScope s__law_more_kinds) := ⟨rfl, rfl, rfl, by decide +kernel, rfl, by decide +kernel, by decide +kernel⟩
theorem two_names {x : Str} (h : x ∈ (["BadText", "BadRow"] : List Str)) : x = "BadText" ∨ x = "BadRow" := by simpa using h
theorem ok_more (T : Nm g.mg) (ex : EXs g.K g.mg ca) (F : FT g "_law_more_kinds" s__law_more_kinds) : FdE φ g "_law_more_kinds" ["e"] 1 (spMore g.K ca) := by
  refine fde_of F sc_more (fun _ _ _ _ _ ⟨e, _⟩ => by rw [e] <;> rfl) (fun _ _ _ _ _ _ us hl => match us, hl with | [_], _ => rfl) (fun f cdv A outer s H vs Q E p hφ hr h => ?_)
  obtain ⟨rfl, x, d, fs, hx, hp, hd, k⟩ := h
  have hx1 : x ∈ exNames := by rcases two_names hx with rfl | rfl <;> decide +kernel
  have no : ∀ T ∈ (["NoName", "TakenName", "Unlike", "NotThere", "TooMany", "NotKept", "NothingToUndo", "NothingToRedo"] : List Str), (x == T || T == "GenusError") = false := by rcases two_names hx with rfl | rfl <;> decide +kernel
  have hpm : p ∈ [p] := List.mem_singleton.mpr rfl
  refine ws_set 1 sc_more.nd (we_lst (wa_nil ⟨Nat.zero_le _, fun l hl => ?_⟩))
  have hd1 : (upd H l (.lst [])) d = some (.xd fs) := (Evl.Ex.new hl) _ _ hd
  refine ws_notX 0 ex hp hpm hx1 (by decide +kernel) (no _ (by decide +kernel)) rfl hd1 T.isinstance ?_
  refine ws_notX 0 ex hp hpm hx1 (by decide +kernel) (no _ (by decide +kernel)) rfl hd1 T.isinstance ?_
  refine ws_notX 0 ex hp hpm hx1 (by decide +kernel) (no _ (by decide +kernel)) rfl hd1 T.isinstance ?_
  refine ws_notX 0 ex hp hpm hx1 (by decide +kernel) (no _ (by decide +kernel)) rfl hd1 T.isinstance ?_
  refine ws_notX 0 ex hp hpm hx1 (by decide +kernel) (no _ (by decide +kernel)) rfl hd1 T.isinstance ?_
  refine ws_notX 0 ex hp hpm hx1 (by decide +kernel) (no _ (by decide +kernel)) rfl hd1 T.isinstance ?_
  refine ws_notX 0 ex hp hpm hx1 (by decide +kernel) (no _ (by decide +kernel)) rfl hd1 T.isinstance ?_
  refine ws_notX 0 ex hp hpm hx1 (by decide +kernel) (no _ (by decide +kernel)) rfl hd1 T.isinstance ?_
  exact ws_ret (we_var 1 rfl (k _ _ (Evl.Ex.new hl) ⟨l, [], rfl, upd_same, .nil⟩))
end
end G

/-! # X4: repr; _law_kinds -/
namespace G
open PySem PySem.Spec PyProof.Rows L2
/-- data whose repr may be asked -/
def Shw (K : PySem.W.Frag) (H : Hp) (v : V) (d : PyData) : Prop := (Dp K H v d ∧ d.hasDict = false ∧ d.showable = true) ∨ (d = .dict [] ∧ ∃ a, v = .ref a ∧ H a = some (.dK []))
theorem Shw.up {K : PySem.W.Frag} {H H' : Hp} {v : V} {d : PyData} (h : Shw K H v d) (e : Ex H H') : Shw K H' v d := by
  rcases h with ⟨h1, h2⟩ | ⟨h1, a, h2, h3⟩
  · exact .inl ⟨h1.up e, h2⟩
  · exact .inr ⟨h1, a, h2, e _ _ h3⟩
def rRepr (K : PySem.W.Frag) : List V → Hp → VK → Prop := fun xs H Q => ∃ v d, xs = [v] ∧ Shw K H v d ∧ d.depth ≤ 8 ∧ d.shown.length ≤ 1000000 ∧ Q (.str d.shown) H
theorem call_reprD {X : Cx} (hg : X.A.guards = some []) (hu : X.A.units + 64 < cLine) : CallR X (.builtin "repr") (rRepr X.K) := by
  intro pins s σ H xs us Q I r h
  obtain ⟨v, d, rfl, sh, hdep, hz, q⟩ := h
  obtain ⟨u, rfl, ru⟩ := vals1 r
  have hz' : d.shown.length ≤ sizeLine := Nat.le_trans hz (by decide)
  have fin : ∀ {a : Addr} {as : List Addr}, Reads s.heap (.ref a) d as → d.showable = true → (d.hasDict = true → sysModules ∉ as) → wpAny (model X.prog X.w) X.A (call (.builtin "repr") [.ref a]) (EP X pins σ Q) X.xe s := fun {a as} rd hs hsm =>
    PySem.repr_of_reads' rd hs hsm hg (by omega) (fun _ _ z => z) (fun h' u tk hk => ⟨.str _, H, I.kept (t' := tk) hk, ⟨u, rfl⟩, q⟩) hz'
  rcases sh with ⟨hd, h1, h2⟩ | ⟨rfl, a, rfl, ha⟩
  · obtain ⟨as, rd⟩ := Dp.reads I d v u hd ru
    cases rd with
    | none => exact PySem.P.repr_of_none ⟨.str _, H, I.tok _, ⟨_, rfl⟩, q⟩
    | bool b => exact PySem.P.repr_of_bool ⟨.str _, H, I.tok _, ⟨_, by cases b <;> rfl⟩, q⟩
    | int i t => exact PySem.P.repr_of_int (by simpa [PyData.showable] using h2) ⟨.str _, H, I.tok _, ⟨_, rfl⟩, q⟩
    | str z t => exact PySem.P.repr_of_str ⟨.str _, H, I.tok _, ⟨_, rfl⟩, q⟩ hz'
    | list a1 a2 a3 a4 => exact fin (.list a1 a2 a3 a4) h2 fun e => by rw [h1] at e; cases e
    | tuple a1 a2 a3 a4 => exact fin (.tuple a1 a2 a3 a4) h2 fun e => by rw [h1] at e; cases e
    | dict => cases h1
  · obtain rfl : u = Value.ref a := ru
    obtain ⟨_, ns, vs, kv, o, es, ep, ho, hc, hdat, _, hp, _⟩ := dk_of I.hok ha
    have hvs : vs = [] := by cases kv; rfl
    subst hvs
    have hes : es.toList = [] := List.eq_nil_of_length_eq_zero hp.length
    refine fin (.dict (kvs := []) (as := []) (bs := []) ho hc.1 hdat (by rw [hes]; exact .nil) (by rw [hes]; exact .nil)) rfl fun _ hm => ?_
    have e : sysModules = a := by simpa using hm
    rw [← e] at ns
    simp at ns
def spKT (K : PySem.W.Frag) (ca : Str → Addr) : Addr × Obj → Sp := fun p vs H Q _ => vs = [.ref p.1] ∧ ∃ d fs ln wd, PinX ca "BadText" d p ∧ H d = some (.xd fs) ∧ fs.lookup ("line" : Str) = some (.int ln) ∧ fs.lookup ("word" : Str) = some (.int wd) ∧ ∀ w H', Ex H H' → DpL K H' w [.tuple [.str "text", .int ln, .int wd]] → Q w H'
def spKR (K : PySem.W.Frag) (ca : Str → Addr) : Addr × Obj → Sp := fun p vs H Q _ => vs = [.ref p.1] ∧ ∃ d fs wt v d0, PinX ca "BadRow" d p ∧ H d = some (.xd fs) ∧ fs.lookup ("what" : Str) = some (.str wt) ∧ fs.lookup ("row" : Str) = some v ∧ Shw K H v d0 ∧ d0.depth ≤ 8 ∧ d0.shown.length ≤ 1000000 ∧ ∀ w H', Ex H H' → DpL K H' w [.tuple [.str "row", .str wt, .str d0.shown]] → Q w H'
section
variable {g : Gd} {ca : Str → Addr}
theorem sc_kinds : FnScope ["e", "found"] ["e"] (defScope s__law_kinds) := ⟨rfl, rfl, rfl, by decide +kernel, rfl, by decide +kernel, by decide +kernel⟩
/-- the end: found + _law_more_kinds(e) -/
theorem en_kinds {f : Addr} {cdv : Value} {A : Around} {outer : List Env} {s : Shared} {H H2 : Hp} {Q : VK} {E : XK} {p : Addr × Obj} {x : Str} {d l : Addr} {fs : List (Str × V)} {t : PyData} {w : V} (GM : FdE (fun _ => True) g "_law_more_kinds" ["e"] 1 (spMore g.K ca)) (hr : RoomH 1 (A.deeper (envOfC "_law_kinds" (defScope s__law_kinds) s.heap.objs.size f cdv))) (hx : x ∈ (["BadText", "BadRow"] : List Str)) (hp : PinX ca x d p) (hd : H2 d = some (.xd fs)) (hl : H2 l = some (.lst [w])) (dw : Dp g.K H2 w t) (e2 : Ex H H2) (k : ∀ w H', Ex H H' → DpL g.K H' w [t] → Q w H') :
    WS (cxB false [p] (CXg g) g.P g.w g.K g.mg g.base ["e", "found"] "_law_kinds" (defScope s__law_kinds) f cdv A outer s H E) (match (defBody s__law_kinds)[9]? with | some st => [st] | none => []) { nx := fun _ H' => Q .non H', rt := Q } [some (.ref p.1), some (.ref l)] H2 := by
  refine ws_retL (d := [t] ++ []) (vl_cat (vl_var 1 rfl hl (.one dw)) (fun H3 e3 => ?_) (show 1 ≤ sizeLine from small_line (by decide))) fun w H3 e3 dw => k w H3 (Evl.Ex.trans e2 e3) dw
  refine we_callE (pp := p) (E := NoE) GM trivial hr (List.mem_singleton.mpr rfl) passL (wa_cons (we_var 0 rfl (wa_nil ⟨rfl, x, d, fs, hx, hp, e3 _ _ hd, fun w H4 e4 dw4 => ⟨e4, dw4⟩⟩)))
theorem ok_kindsT (T : Nm g.mg) (ex : EXs g.K g.mg ca) (F : FT g "_law_kinds" s__law_kinds) (GM : FdE (fun _ => True) g "_law_more_kinds" ["e"] 1 (spMore g.K ca)) : FdE (fun _ => True) g "_law_kinds" ["e"] 2 (spKT g.K ca) := by
  refine fde_of F sc_kinds (fun _ _ _ _ _ ⟨e, _⟩ => by rw [e] <;> rfl) (fun _ _ _ _ _ _ us hl => match us, hl with | [_], _ => rfl) (fun f cdv A outer s H vs Q E p hφ hr h => ?_)
  obtain ⟨rfl, d, fs, ln, wd, hp, hd, hln, hwd, k⟩ := h
  have hx1 : ("BadText" : Str) ∈ exNames := by decide +kernel
  have hpm : p ∈ [p] := List.mem_singleton.mpr rfl
  refine ws_set 1 sc_kinds.nd (we_lst (wa_nil ⟨Nat.zero_le _, fun l hl => ?_⟩))
  have hd1 : (upd H l (.lst [])) d = some (.xd fs) := (Evl.Ex.new hl) _ _ hd
  refine ws_notX 0 ex hp hpm hx1 (by decide +kernel) (by decide +kernel) rfl hd1 T.isinstance ?_
  refine ws_notX 0 ex hp hpm hx1 (by decide +kernel) (by decide +kernel) rfl hd1 T.isinstance ?_
  refine ws_notX 0 ex hp hpm hx1 (by decide +kernel) (by decide +kernel) rfl hd1 T.isinstance ?_
  refine ws_notX 0 ex hp hpm hx1 (by decide +kernel) (by decide +kernel) rfl hd1 T.isinstance ?_
  refine ws_notX 0 ex hp hpm hx1 (by decide +kernel) (by decide +kernel) rfl hd1 T.isinstance ?_
  refine ws_notX 0 ex hp hpm hx1 (by decide +kernel) (by decide +kernel) rfl hd1 T.isinstance ?_
  have fl := fun f hf => ex.fld ("BadText", ["line", "word"]) (by decide +kernel) f hf
  refine ws_ifW (wt_isX 0 ex hp hpm hx1 (by decide +kernel) (b := true) (by decide +kernel) rfl hd1 T.isinstance (iteT (ws_expr (we_append (l := l) (xs := []) (we_var 1 rfl ⟨rfl, upd_same, we_tup (wa_cons (vd_str.use fun w0 H2 e2 d0 => wa_cons (we_efld (ex.at_ _ hx1).2.1 (hp.pd hpm) (fl "line" (by decide +kernel)) (we_var 0 rfl ⟨rfl, fs, .int ln, e2 _ _ hd1, hln, wa_cons (we_efld (ex.at_ _ hx1).2.1 (hp.pd hpm) (fl "word" (by decide +kernel)) (we_var 0 rfl ⟨rfl, fs, .int wd, e2 _ _ hd1, hwd, wa_nil ⟨show 3 ≤ sizeLine from small_line (by decide), fun a ha => ⟨(Evl.Ex.new ha) _ _ (e2 _ _ upd_same), by show 0 < 100000; decide, ws_nil ?_⟩⟩⟩))⟩))))⟩)))))
  obtain rfl := d0.str_v
  have e3 : Ex (upd H l (.lst [])) (upd H2 a (.tup [.str "text", .int ln, .int wd])) := Evl.Ex.trans e2 (Evl.Ex.new ha)
  have e4 : Ex H (upd (upd H2 a (.tup [.str "text", .int ln, .int wd])) l (.lst ([] ++ [.ref a]))) := Evl.Ex.mut (Evl.Ex.trans (Evl.Ex.new hl) e3) hl
  have al : a ≠ l := fun q => by rw [q, e2 _ _ upd_same] at ha; cases ha
  refine ws_notX 0 ex hp hpm hx1 (by decide +kernel) (by decide +kernel) rfl (e4 _ _ hd) T.isinstance ?_
  exact en_kinds GM hr (by decide +kernel) hp (e4 _ _ hd) upd_same (.tup (SqT.of (by rw [upd_ne al]; exact upd_same)) (.cons (.str _) (.cons (.int ln) (.one (.int wd))))) e4 k
theorem ok_kindsR (T : Nm g.mg) (ex : EXs g.K g.mg ca) (F : FT g "_law_kinds" s__law_kinds) (GM : FdE (fun _ => True) g "_law_more_kinds" ["e"] 1 (spMore g.K ca)) : FdE (fun A => A.guards = some []) g "_law_kinds" ["e"] 2 (spKR g.K ca) := by
  refine fde_of F sc_kinds (fun _ _ _ _ _ ⟨e, _⟩ => by rw [e] <;> rfl) (fun _ _ _ _ _ _ us hl => match us, hl with | [_], _ => rfl) (fun f cdv A outer s H vs Q E p hφ hr h => ?_)
  obtain ⟨rfl, d, fs, wt, v, d0, hp, hd, hwt, hv, hsh, hdp, hz, k⟩ := h
  have hx1 : ("BadRow" : Str) ∈ exNames := by decide +kernel
  have hpm : p ∈ [p] := List.mem_singleton.mpr rfl
  refine ws_set 1 sc_kinds.nd (we_lst (wa_nil ⟨Nat.zero_le _, fun l hl => ?_⟩))
  have hd1 : (upd H l (.lst [])) d = some (.xd fs) := (Evl.Ex.new hl) _ _ hd
  have hgd : (A.deeper (envOfC "_law_kinds" (defScope s__law_kinds) s.heap.objs.size f cdv)).guards = some [] := hφ
  have hun : (A.deeper (envOfC "_law_kinds" (defScope s__law_kinds) s.heap.objs.size f cdv)).units + 64 < cLine := by have := hr.un; omega
  refine ws_notX 0 ex hp hpm hx1 (by decide +kernel) (by decide +kernel) rfl hd1 T.isinstance ?_
  have fl := fun f hf => ex.fld ("BadRow", ["what", "row"]) (by decide +kernel) f hf
  refine ws_ifW (wt_isX 0 ex hp hpm hx1 (by decide +kernel) (b := true) (by decide +kernel) rfl hd1 T.isinstance (iteT (ws_expr (we_append (l := l) (xs := []) (we_var 1 rfl ⟨rfl, upd_same, we_tup (wa_cons (vd_str.use fun w0 H2 e2 dw0 => wa_cons (we_efld (ex.at_ _ hx1).2.1 (hp.pd hpm) (fl "what" (by decide +kernel)) (we_var 0 rfl ⟨rfl, fs, .str wt, e2 _ _ hd1, hwt, wa_cons (we_callB (call_reprD hgd hun) T.repr (by decide +kernel) (wa_cons (we_efld (ex.at_ _ hx1).2.1 (hp.pd hpm) (fl "row" (by decide +kernel)) (we_var 0 rfl ⟨rfl, fs, v, e2 _ _ hd1, hv, wa_nil ⟨v, _, rfl, (hsh.up (Evl.Ex.new hl)).up e2, hdp, hz, wa_nil ⟨show 3 ≤ sizeLine from small_line (by decide), fun a ha => ⟨(Evl.Ex.new ha) _ _ (e2 _ _ upd_same), by show 0 < 100000; decide, ws_nil ?_⟩⟩⟩⟩))))⟩))))⟩)))))
  obtain rfl := dw0.str_v
  have e3 : Ex (upd H l (.lst [])) (upd H2 a (.tup [.str "row", .str wt, .str d0.shown])) := Evl.Ex.trans e2 (Evl.Ex.new ha)
  have e4 : Ex H (upd (upd H2 a (.tup [.str "row", .str wt, .str d0.shown])) l (.lst ([] ++ [.ref a]))) := Evl.Ex.mut (Evl.Ex.trans (Evl.Ex.new hl) e3) hl
  have al : a ≠ l := fun q => by rw [q, e2 _ _ upd_same] at ha; cases ha
  refine ws_notX 0 ex hp hpm hx1 (by decide +kernel) (by decide +kernel) rfl (e4 _ _ hd) T.isinstance ?_
  refine ws_notX 0 ex hp hpm hx1 (by decide +kernel) (by decide +kernel) rfl (e4 _ _ hd) T.isinstance ?_
  refine ws_notX 0 ex hp hpm hx1 (by decide +kernel) (by decide +kernel) rfl (e4 _ _ hd) T.isinstance ?_
  refine ws_notX 0 ex hp hpm hx1 (by decide +kernel) (by decide +kernel) rfl (e4 _ _ hd) T.isinstance ?_
  refine ws_notX 0 ex hp hpm hx1 (by decide +kernel) (by decide +kernel) rfl (e4 _ _ hd) T.isinstance ?_
  refine ws_notX 0 ex hp hpm hx1 (by decide +kernel) (by decide +kernel) rfl (e4 _ _ hd) T.isinstance ?_
  exact en_kinds GM hr (by decide +kernel) hp (e4 _ _ hd) upd_same (.tup (SqT.of (by rw [upd_ne al]; exact upd_same)) (.cons (.str _) (.cons (.str wt) (.one (.str d0.shown))))) e4 k
end
end G

/-! # X5: _law_fault, handed a lambda -/
namespace G
open PySem PySem.Spec PyProof.Rows L2
theorem FdE.imp {φ : Around → Prop} {g : Gd} {x : Str} {ps : List Str} {k : Nat} {sp sp' : Addr × Obj → Sp} (F : FdE φ g x ps k sp) (h : ∀ p vs H Q E, sp' p vs H Q E → sp p vs H Q E) : FdE φ g x ps k sp' := by
  obtain ⟨f, fd, ok, a, b, c⟩ := F
  exact ⟨f, fd, ⟨fun p vs H Q E z => ok.len p vs H Q E (h _ _ _ _ _ z), fun A outer s H args us vs Q E p h1 h2 h3 h4 h5 h6 z => ok.run A outer s H args us vs Q E p h1 h2 h3 h4 h5 h6 (h _ _ _ _ _ z)⟩, a, b, c⟩
/-- what is told of an error: of the class x, its dict d is told by PP, the telling is t -/
def spKind (K : PySem.W.Frag) (ca : Str → Addr) (x : Str) (PP : Addr → Hp → PyData → Prop) : Addr × Obj → Sp := fun p vs H Q _ => vs = [.ref p.1] ∧ ∃ d t, PinX ca x d p ∧ PP d H t ∧ ∀ w H', Ex H H' → DpL K H' w [t] → Q w H'
def PPt : Addr → Hp → PyData → Prop := fun d H t => ∃ fs ln wd, H d = some (.xd fs) ∧ fs.lookup ("line" : Str) = some (.int ln) ∧ fs.lookup ("word" : Str) = some (.int wd) ∧ t = .tuple [.str "text", .int ln, .int wd]
def PPr (K : PySem.W.Frag) : Addr → Hp → PyData → Prop := fun d H t => ∃ fs wt v d0, H d = some (.xd fs) ∧ fs.lookup ("what" : Str) = some (.str wt) ∧ fs.lookup ("row" : Str) = some v ∧ Shw K H v d0 ∧ d0.depth ≤ 8 ∧ d0.shown.length ≤ 1000000 ∧ t = .tuple [.str "row", .str wt, .str d0.shown]
/-- the def's meaning: what the lambda does, its error told, or None -/
def TTf (K : PySem.W.Frag) (ca : Str → Addr) (x : Str) (PP : Addr → Hp → PyData → Prop) : (XK → Hp → VK → Prop) → Hp → VK → Prop := fun tl H Q =>
  ∀ (E2 : XK) (Q2 : VK), (∀ v H', Q .non H' → Q2 v H') → (∀ d H' t, PP d H' t → (∀ w H'', Ex H' H'' → Dp K H'' w t → Q w H'') → E2 (.ref (ca x)) (some d) H') → tl E2 H Q2
section
variable {X : Cx} {c a b : Expr} {σ : St} {H : Hp} {Q : VK} {pos : Pos}
theorem we_ifW (h : WT X c σ H fun t H1 => if t = true then WE X a σ H1 Q else WE X b σ H1 Q) : WE X (.IfExp c a b pos) σ H Q := .of (pe_ifExp WT.pt WE.pe WE.pe) h
theorem takes_len {W : WX} (h : Takes X W) : Takes X (fun cls d σ H => σ.length = X.N.length → W cls d σ H) := fun u s' ⟨a, B, sI, pins, σ, H, cls, d, e, I, nb, up, sky, na, os, ag, w⟩ => h u s' ⟨a, B, sI, pins, σ, H, cls, d, e, I, nb, up, sky, na, os, ag, w I.len⟩
/-- isinstance(e, T), T a built-in type -/
theorem wt_isV (j : Nat) {ca : Str → Addr} {x T e : Str} {d : Addr} {pp : Addr × Obj} {fs : List (Str × V)} {n : String} {Q : Bool → Hp → Prop} {p r tp : Pos} {bb : Bool} (ex : EXs X.K X.mg ca) (hp : PinX ca x d pp) (hm : pp ∈ X.pn) (hx : x ∈ exNames) (hT : X.mg T = none) (hbT : bootBuiltins T = some (.type n)) (hk : PySem.W.kitOne X.K (.ref (ca x)) (.type n) = some bb) (h0 : σ[j]? = some (some (.ref pp.1))) (hd : H d = some (.xd fs)) (mi : X.mg "isinstance" = none) (k : Q bb H) (hN : X.N[j]? = some e := by rfl) (hv : Vis X.env.scope e := by first | exact Or.inl rfl | exact Or.inr (Or.inl rfl) | exact Or.inr (Or.inr rfl))
    (h1 : (e == ("__debug__" : Str)) = false := by decide) (h2 : (e == ("__classdict__" : Str)) = false := by decide) (hg : Gl X "isinstance" := by rfl) (hgT : Gl X T := by rfl) (hnT : T ≠ "__name__" := by decide) (hdb : (T == ("__debug__" : Str)) = false := by decide)
    (he : starEach [.Name e r, .Name T tp] X.env = (false, eval (.Name e r) X.env) :: starEach [.Name T tp] X.env := by rfl) (he2 : starEach [.Name T tp] X.env = (false, eval (.Name T tp) X.env) :: starEach [] X.env := by rfl) (hpl : (backTo pos (starEach [.Name T tp] X.env)).any (·.1) = false := by rfl)
    (ht : ∀ whole, isTrue (.Call (.Name "isinstance" p) [.Name e r, .Name T tp] [] pos) X.env whole = (do let v ← whole; standAt (Expr.Call (.Name "isinstance" p) [.Name e r, .Name T tp] [] pos).pos; holding [v] (truthy v)) := by intro _; rfl) : WT X (.Call (.Name "isinstance" p) [.Name e r, .Name T tp] [] pos) σ H Q :=
  wt_val (we_callB (call_isX (ex.at_ x hx).2.1 (hp.pd hm)) mi (by decide +kernel) (wa_cons (we_var j h0 (wa_cons (we_ty hT hbT (wa_nil ⟨.ty n, .type n, bb, fs, rfl, fun u r => r, hk, hd, bb, rfl, k⟩) hgT hnT hdb) he2) hN hv h1 h2) he) hg (by decide) (by decide) he hpl) ht
end
section
variable {X : Cx} {ca : Str → Addr}
def suiteOf : Stmt → List Stmt
  | .Try _ [.ExceptHandler _ _ su _] _ _ _ => su
  | _ => []
/-- where the handed function is called -/
def callPs : Pos × Pos := match defBody s__law_fault with
  | _ :: Stmt.Try (Stmt.Expr (Expr.Call (Expr.Name _ p) _ _ q) _ :: _) _ _ _ _ :: _ => (p, q)
  | _ => (⟨0, 0, 0, 0⟩, ⟨0, 0, 0, 0⟩)
theorem sc_fault : FnScope ["call", "found", "e"] ["call"] (defScope s__law_fault) := ⟨rfl, rfl, rfl, by decide +kernel, rfl, by decide +kernel, by decide +kernel⟩
theorem fault_gives {φ : Around → Prop} {x q : Str} {PP : Addr → Hp → PyData → Prop} {g : Addr} {cdg : Value} (T : Nm X.mg) (ex : EXs X.K X.mg ca) (hx : x ∈ exNames) (hPP : ∀ d H t, PP d H t → ∃ fs, H d = some (.xd fs)) (hφ : ∀ env hd, φ ((X.A.deeper env).mark hd)) (hr : RoomH 3 X.A) (GK : FdE φ (Cxg X) "_law_kinds" ["e"] 2 (spKind X.K ca x PP)) :
    LamX.GivesTo X ["call", "found", "e"] "_law_fault" (defScope s__law_fault) g cdg (defBody s__law_fault) "call" q (TTf X.K ca x PP) := by
  intro f c' s H Q tl act hc h
  have hG : ("GenusError" : Str) ∈ exNames := by decide +kernel
  refine ⟨_, WS.ps, ws_set 1 sc_fault.nd (WE.non ?_)⟩
  refine ws_cons (.of (ps_try_as (X := (cxOf C8.CX0 X.prog X.w X.K X.mg X.base ["call", "found", "e"] "_law_fault" (defScope s__law_fault) g cdg X.A X.stack s H C8.E0).nox) (i := 2) (c := .ref (ca "GenusError"))
    (tb := fun W D σ H2 => ∃ Ech : XK, (∀ cls d σ' H', Ech cls d H' → σ'.length = 3 → W cls d σ' H') ∧ σ[0]? = some (some (.ref f)) ∧ H2 c' = some (LamX.CodeO c' q) ∧ tl Ech H2 fun _ H' => D.nx σ H')
    (ts := fun a cls d D σ H2 => ∀ oe pn, Zc cls d oe → (∃ vs, oe.data = .fields vs) → WS (Cx.suite (cxOf C8.CX0 X.prog X.w X.K X.mg X.base ["call", "found", "e"] "_law_fault" (defScope s__law_fault) g cdg X.A X.stack s H C8.E0).nox a ((a, oe) :: pn)) (suiteOf ((defBody s__law_fault).getD 1 (.Pass ⟨0, 0, 0, 0⟩))) D σ H2)
    rfl rfl sc_fault.nd rfl rfl ⟨rfl, by decide, .inl (ex.at_ _ hG).1⟩ LamX.takes0 (fun W pn xe tk _ => ?_) (fun a oe cls d pn hz hf => ⟨fun pins s' σ H2 D I z => z oe pn hz hf pins s' I⟩)) ?_)
  · refine ⟨fun pins s' σ H' D I h' => ?_⟩
    obtain ⟨Ech, hW, h1, h2, h3⟩ := h'
    have hp := act (fun cls d σ H => σ.length = 3 → W cls d σ H) pn xe Ech callPs.1 callPs.2 (takes_len (X := Cx.tr (cxOf C8.CX0 X.prog X.w X.K X.mg X.base ["call", "found", "e"] "_law_fault" (defScope s__law_fault) g cdg X.A X.stack s H C8.E0).nox pn xe) tk) fun cls d σ' H' e hl => hW cls d σ' H' e hl
    exact (pss_one (ps_expr hp rfl)).run pins s' σ H' D I ⟨h1, h2, h3⟩
  · refine ⟨_, ?_, rfl, hc, h (fun cls d H' => ∃ dd t, cls = .ref (ca x) ∧ d = some dd ∧ PP dd H' t ∧ ∀ w H'', Ex H' H'' → Dp X.K H'' w t → Q w H'') _ (fun v H' hq => ws_ret (we_var 1 rfl hq)) fun d H' t hpp hq => ⟨d, t, rfl, rfl, hpp, hq⟩⟩
    rintro cls d σ' H1 ⟨dd, t, rfl, rfl, hpp, hq⟩ hlen
    refine ⟨true, ex.exm x hx, fun _ a ha oe pn hz hf => ?_, fun z => by cases z⟩
    obtain ⟨s0, s1, s2, rfl⟩ : ∃ s0 s1 s2, σ' = [s0, s1, s2] := by
      match σ', hlen with
      | [s0, s1, s2], _ => exact ⟨s0, s1, s2, rfl⟩
    have hpx : PinX ca x dd (a, oe) := ⟨hz, hf⟩
    have hm : (a, oe) ∈ (a, oe) :: pn := List.mem_cons_self
    obtain ⟨fs, hfs⟩ := hPP _ _ _ hpp
    have hrH : RoomH 2 ((X.A.deeper (envOfC "_law_fault" (defScope s__law_fault) s.heap.objs.size g cdg)).mark (some (.ref a))) := (let z := hr.deeper (envOfC "_law_fault" (defScope s__law_fault) s.heap.objs.size g cdg); ⟨z.dp, z.un⟩)
    refine ws_set 1 sc_fault.nd (we_callE (pp := (a, oe)) (E := NoE) GK (hφ _ _) hrH hm passL (wa_cons (we_var 2 rfl (wa_nil ⟨rfl, dd, t, hpx, hpp, fun w H2 e2 dw => ?_⟩))))
    obtain ⟨l, xs, ew, hl, dx⟩ := dw
    subst ew
    have hfs2 := e2 _ _ hfs
    have dl : ∀ {H'}, Ex H2 H' → Dp X.K H' (.ref l) (.list [t]) := fun e => (DpL.dp ⟨l, xs, rfl, hl, dx⟩).up e
    refine ws_set 1 sc_fault.nd (we_ifW (wt_and ((vt_eq (vd_len (by exact T.len) (by exact vd_var 1 rfl (dl (Evl.Ex.refl _)))) vd_int).use fun H3 e3 => ?_)))
    rw [if_pos (by rfl)]
    refine wt_isV 2 (n := "ValueError") (by exact ex) hpx hm hx (by exact T.valueError) (by decide +kernel) (by exact ex.ve x hx) rfl (e3 _ _ hfs2) (by exact T.isinstance) (iteT ((vd_ixL (ds := [t]) (by exact vd_var 1 rfl (dl e3)) (vd_int (i := 0)) (d := t) rfl).use fun w H4 e4 dw => ws_nil (ws_ret (we_var 1 rfl (hq w H4 (Evl.Ex.trans e2 (Evl.Ex.trans e3 e4)) dw)))))
end
end G

/-! # X6: lambdas handed to _law_fault; defs whose code object is known -/
namespace G
open PySem PySem.Spec PyProof.Rows L2
/-- a def as the head tells it, its code object at c -/
abbrev FTC (g : Gd) (x : Str) (st : Stmt) (c : Addr) : Prop := ∃ f fd, FunD g.K x x (defArgs st) (defBody st) (defScope st) [] [] f fd ∧ g.mg x = some (.ref f) ∧ fd.code = .ref c
section
variable {g : Gd} {x : Str} {st : Stmt} {N ps : List Str} {k : Nat} {c : Addr}
theorem fdc_of {sp : Sp} (F : FTC g x st c) (S : FnScope N ps (defScope st)) (len : ∀ vs H Q E, sp vs H Q E → vs.length = ps.length)
    (hb : ∀ (kV doc pm : Value) (an : Option Addr) (cdv ct : Value) (us : List Value), us.length = ps.length → bindArgs (PySem.W.fnOf x x (defArgs st) (defBody st) (defScope st) .none kV doc pm an cdv ct) ⟨us, []⟩ = pure (ps.zip us))
    (body : ∀ (f : Addr) (A : Around) (outer : List Env) (s : Shared) (H : Hp) (vs : List V) (Q : VK) (E : XK), Room k (A.deeper (envOfC x (defScope st) s.heap.objs.size f (.ref c))) → sp vs H Q E → WS (cxOf (CXg g) g.P g.w g.K g.mg g.base N x (defScope st) f (.ref c) A outer s H E) (defBody st) { nx := fun _ H' => Q .non H', rt := Q } (L2.start N vs) H) : Fd g x ps (k + 1) sp := by
  obtain ⟨f, fd, F, hm, hc⟩ := F
  obtain ⟨oc, od, dV, kV, doc, pm, an, cdv, ct, osl, rfl, lk, hcd, _, _⟩ := id F.ex
  obtain rfl : cdv = .ref c := hc
  refine ⟨f, PySem.W.fnOf x x (defArgs st) (defBody st) (defScope st) dV kV doc pm an (.ref c) ct, [], ⟨len, fun A outer s H args us vs Q E hr e0 hbi r hsp => ?_⟩, hm, F.kp, .nil, fun s us _ hl => ?_⟩
  · exact callRuns (cm := true) (pn := []) lk hcd S hr.depth e0 hbi (fun s1 y => inv_start S hr.hd e0 (len _ _ _ _ hsp) r y) (body f A outer s H vs Q E (hr.deeper _) hsp)
  · rw [List.append_nil] at hl ⊢
    exact FunD.bindsA (ps := ps) F hb s us hl
theorem fdgc_of {sp : Sp} (F : FTC g x st c) (S : FnScope N ps (defScope st)) (len : ∀ vs H Q E, sp vs H Q E → vs.length = ps.length)
    (hb : ∀ (kV doc pm : Value) (an : Option Addr) (cdv ct : Value) (us : List Value), us.length = ps.length → bindArgs (PySem.W.fnOf x x (defArgs st) (defBody st) (defScope st) .none kV doc pm an cdv ct) ⟨us, []⟩ = pure (ps.zip us))
    (body : ∀ (f : Addr) (A : Around) (outer : List Env) (s : Shared) (H : Hp) (vs : List V) (Q : VK) (E : XK), A.guards = some [] → Room k (A.deeper (envOfC x (defScope st) s.heap.objs.size f (.ref c))) → sp vs H Q E → WS (cxOf (CXg g) g.P g.w g.K g.mg g.base N x (defScope st) f (.ref c) A outer s H E) (defBody st) { nx := fun _ H' => Q .non H', rt := Q } (L2.start N vs) H) : FdG g x ps (k + 1) sp := by
  obtain ⟨f, fd, F, hm, hc⟩ := F
  obtain ⟨oc, od, dV, kV, doc, pm, an, cdv, ct, osl, rfl, lk, hcd, _, _⟩ := id F.ex
  obtain rfl : cdv = .ref c := hc
  refine ⟨f, PySem.W.fnOf x x (defArgs st) (defBody st) (defScope st) dV kV doc pm an (.ref c) ct, ⟨len, fun A outer s H args us vs Q E hg hr e0 hbi r hsp => ?_⟩, hm, F.kp, fun s us _ hl => ?_⟩
  · exact callRuns (cm := true) (pn := []) lk hcd S hr.depth e0 hbi (fun s1 y => inv_start S hr.hd e0 (len _ _ _ _ hsp) r y) (body f A outer s H vs Q E hg (hr.deeper _) hsp)
  · rw [List.append_nil] at hl ⊢
    exact FunD.bindsA (ps := ps) F hb s us hl
end
section
variable {X : Cx} {ca : Str → Addr}
theorem we_fault {φ : Around → Prop} {x : Str} {PP : Addr → Hp → PyData → Prop} {T : List (Addr × Str)} {c P : Addr} {k : Nat} {params : Arguments} {body : Expr} {scope : Scope} {p lpos pos : Pos} {σ : St} {H : Hp} {Q : VK} (F : FT (Cxg X) "_law_fault" s__law_fault) (nm : Nm X.mg) (ex : EXs X.K X.mg ca) (hx : x ∈ exNames) (hPP : ∀ d H t, PP d H t → ∃ fs, H d = some (.xd fs)) (hφ : ∀ env hd, φ ((X.A.deeper env).mark hd)) (GK : FdE φ (Cxg X) "_law_kinds" ["e"] 2 (spKind X.K ca x PP))
    (TB : LamX.TabB X.base X.mg c P) (hcode : X.env.code = .ref c) (hmT : (P, X.env.qual ++ "<lambda>") ∈ T) (hu : ∀ p ∈ T, p.1 = P → p.2 = X.env.qual ++ "<lambda>") (hr : Room (k + 3) X.A) (L : LamX.LamS X.env.scope scope) (hT : LamX.Tabs T H)
    (h : ∀ H1, LamX.ExtN H H1 → LamX.Tabs T H1 → ∀ (E2 : XK) (Q2 : VK), (∀ v H', Q .non H' → Q2 v H') → (∀ d H' t, PP d H' t → (∀ w H'', Ex H' H'' → Dp X.K H'' w t → Q w H'') → E2 (.ref (ca x)) (some d) H') → ∀ (A : Around) (outer : List Env) (s : Shared) (H0 : Hp) (f c' : Addr), Room k (A.deeper (LamX.lamEnv X scope s.heap.objs.size f c')) → WE (LamX.lamCx X A outer s H0 E2 scope f c') body σ H1 Q2)
    (hg : Gl X "_law_fault" := by rfl) (hdef : defaultsOf params X.env = ([], []) := by rfl) (hbind : ∀ (q : Str) (cl : List (Str × Addr)) (pm cv ctv : Value), bindArgs (PySem.W.kla_fn "<lambda>" q params body scope cl pm cv ctv) ⟨[], []⟩ = pure [] := by intro _ _ _ _ _; rfl) : WE X (.Call (.Name "_law_fault" p) [.Lambda params body scope lpos] [] pos) σ H Q := by
  obtain ⟨gf, fd, F, hm⟩ := F
  obtain ⟨oc, od, dV, kV, doc, pm, an, cdv, ct, osl, rfl, lk, hcd, _, _⟩ := id F.ex
  have hb : L2.Binds X.K (PySem.W.fnOf "_law_fault" "_law_fault" (defArgs s__law_fault) (defBody s__law_fault) (defScope s__law_fault) dV kV doc pm an cdv ct) ["call"] [] := fun s us _ hl => by
    rw [List.append_nil] at hl ⊢
    exact FunD.bindsA (ps := ["call"]) F (fun _ _ _ _ _ _ us hl => match us, hl with | [_], _ => rfl) s us hl
  have hrH : RoomH 3 X.A := ⟨by have := hr.dp; omega, by have := hr.un; omega⟩
  exact .of (LamX.pe_lamcall (k := k) (t := fun E σ H Q => ∀ (A : Around) (outer : List Env) (s : Shared) (H0 : Hp) (f c' : Addr), Room k (A.deeper (LamX.lamEnv X scope s.heap.objs.size f c')) → WE (LamX.lamCx X A outer s H0 E scope f c') body σ H Q) hg hm F.kp lk hcd hb sc_fault rfl (.inl rfl)
    (fault_gives nm ex hx hPP hφ hrH GK) TB hcode hmT hu (hr.mono (by omega)) L hdef hbind (fun A outer s H0 E f c' hr' => ⟨fun pins s' σ H' Q I z => z A outer s H0 f c' hr' pins s' I⟩)) ⟨hT, h⟩
end
end G

/-! # X7: _law_is, _law_read_fault -/
namespace G
open PySem PySem.Spec PyProof.Rows L2
/- the data that _law_is is asked about here: numbers, texts, tuples of such -/
mutual
def tidy : PyData → Bool
  | .int _ => true
  | .str _ => true
  | .tuple ds => tidyAll ds
  | _ => false
def tidyAll : List PyData → Bool
  | [] => true
  | d :: ds => tidy d && tidyAll ds
end
theorem tidy_mem : ∀ {ds : List PyData}, tidyAll ds = true → ∀ d ∈ ds, tidy d = true
  | [], _, d, h => by cases h
  | x :: xs, k, d, h => by
    simp only [tidyAll, Bool.and_eq_true] at k
    rcases List.mem_cons.mp h with e | e
    · rw [e]; exact k.1
    · exact tidy_mem k.2 d e
def spIs (K : PySem.W.Frag) (n : Nat) : Sp := fun vs H Q _ => ∃ v w d, vs = [v, w] ∧ Dp K H v d ∧ Dp K H w d ∧ tidy d = true ∧ d.depth < n ∧ lens d = true ∧ ∀ H', Ex H H' → Q (.bl true) H'
section
variable {g : Gd}
theorem sc_is : FnScope ["told", "due", "at"] ["told", "due"] (defScope s__law_is) := ⟨rfl, rfl, rfl, by decide +kernel, rfl, by decide +kernel, by decide +kernel⟩
theorem depth_in {ds : List PyData} {d : PyData} (h : d ∈ ds) : d.depth ≤ PyData.depthAll ds := by
  induction ds with
  | nil => cases h
  | cons x xs ih =>
    simp only [PyData.depthAll]
    rcases List.mem_cons.mp h with e | e
    · rw [e]; exact Nat.le_max_left _ _
    · exact Nat.le_trans (ih e) (Nat.le_max_right _ _)
theorem sel_false (m : Nat) (fs : List PyData) : sel (List.replicate m false) fs = [] := by
  induction m generalizing fs with
  | zero => cases fs <;> rfl
  | succ m ih =>
    cases fs with
    | nil => rfl
    | cons f fs => exact ih fs
theorem st_is (T : Nm g.mg) (F : FT g "_law_is" s__law_is) (n : Nat) (GI : Fd g "_law_is" ["told", "due"] (n + 1) (spIs g.K n)) : Fd g "_law_is" ["told", "due"] (n + 2) (spIs g.K (n + 1)) := by
  obtain ⟨f, fd, F, hm⟩ := F
  refine fd_of F hm sc_is (fun _ _ _ _ ⟨v, w, d, e, _⟩ => by rw [e] <;> rfl) (fun _ _ _ _ _ _ us hl => match us, hl with | [_, _], _ => rfl) (fun cdv A outer s H vs Q E hr h => ?_)
  obtain ⟨v, w, d, rfl, hv, hw, ht, hdep, hlen, k⟩ := h
  have fin : ∀ {H1 H2 : Hp} {u : V}, Ex H H1 → Ex H1 H2 → Dp g.K H2 u (.bool true) → Q u H2 := fun e1 e2 du => by
    obtain rfl := du.bl_v
    exact k _ (Evl.Ex.trans e1 e2)
  refine ws_if (vt_val (vd_isi T.isinstance T.tuple bt_tuple (vd_var 1 rfl hw) (kit_tuple d))) (fun hb H1 e1 => ?_) (fun hb H1 e1 => ws_nil ?_)
  · cases d with
    | tuple ds =>
      obtain ⟨hl4, hla⟩ := lens_tuple hlen
      have hv1 := hv.up e1
      have hw1 := hw.up e1
      refine ws_if (VW.vt (vw_or (vt_not (vt_val (vd_isi T.isinstance T.tuple bt_tuple (vd_var 0 rfl hv1) (kit_tuple _)))) fun _ => vw_or1 (vt_ne (vd_lenT T.len (vd_var 0 rfl hv1)) (vd_lenT T.len (vd_var 1 rfl hw1))))) (fun hb H2 e2 => ?_) (fun hb H2 e2 => ws_nil ?_)
      · simp [isTupleB] at hb
      · have hv2 := hv1.up e2
        have hw2 := hw1.up e2
        have hnil : ∀ fs, sel (List.replicate ds.length false) fs = [] := sel_false _
        refine ws_retD (d := .bool true) ((vd_eqD hr.units (VL.vd (vl_lcIfR ["told", "due", "at"] (defScope s__law_is) 2 (fs := intD ((List.range ds.length).map fun i : Nat => (i : Int))) T.range (n := ds.length) ⟨by omega, by omega⟩ (vd_lenT T.len (vd_var 1 rfl hw2)) (by simp [intD]) (immAll_intD _) (by simp [intD]; omega) (List.replicate ds.length false) (by simp [intD]) (fun i f H3 hf e3 t ht' s2 H0 C cl fp => ?_) (fun i f H3 hf e3 hbi s2 H0 C cl fp => ?_) rfl sc_is.nd)) (VL.vd (vl_lst va_nil (show 0 ≤ 100000 by decide))) ?_ (shaped_strs fun d hd => absurd hd (by simp))).to (by rw [hnil]; rfl)) fun u H3 e3 du => fin (Evl.Ex.trans e1 e2) e3 du
        · have hi : i < ds.length := by
            have := (List.getElem?_eq_some_iff.mp hf).1
            simpa [intD] using this
          have hbt : t = false := by
            rw [List.getElem?_replicate, if_pos hi] at ht'
            exact (Option.some.inj ht').symm
          have hdi : atI ds (i : Int) = some ds[i] := atI_nat (List.getElem?_eq_getElem hi)
          have hmem : ds[i] ∈ ds := List.getElem_mem hi
          rw [hbt]
          have hdd : ds[i].depth < n := by
            have h1 := depth_in hmem
            have h2 : PyData.depthAll ds + 1 < n + 1 := hdep
            omega
          refine VT.to (vt_not (t := true) (vt_val fun H4 e4 => we_call0 GI hr (wa_cons ((vd_ixT (vd_var 0 rfl ((hv2.up e3).up e4)) (vd_var 2 rfl (.int (i : Int))) hdi).use fun u H5 e5 du => wa_cons ((vd_ixT (vd_var 1 rfl (((hw2.up e3).up e4).up e5)) (vd_var 2 rfl (.int (i : Int))) hdi).use fun u2 H6 e6 du2 => wa_nil ⟨u, u2, _, rfl, du.up e6, du2, tidy_mem ht _ hmem, hdd, lens_mem hla _ hmem, fun H7 e7 => ⟨Evl.Ex.trans e5 (Evl.Ex.trans e6 e7), .bl true⟩⟩))))) rfl
        · have hi : i < ds.length := by
            have := (List.getElem?_eq_some_iff.mp hf).1
            simpa [intD] using this
          rw [List.getElem?_replicate, if_pos hi] at hbi
          cases hbi
        · rw [hnil]
          exact shaped_strs fun d hd => absurd hd (by simp)
    | _ => exact Bool.noConfusion (show false = true from hb)
  · cases d with
    | int i =>
      obtain rfl := hv.int_v
      obtain rfl := hw.int_v
      refine ws_if (vt_isN (vd_var 1 rfl (.int i))) (fun hb _ _ => by cases hb) (fun _ H2 e2 => ws_nil ?_)
      refine ws_if (vt_isIB (vd_var 1 rfl (.int i))) (fun hb _ _ => by cases hb) (fun _ H3 e3 => ws_nil ?_)
      refine ws_if (vt_isIB (vd_var 1 rfl (.int i))) (fun hb _ _ => by cases hb) (fun _ H4 e4 => ws_nil ?_)
      refine ws_if (vt_val (vd_isi T.isinstance T.str bt_str (vd_var 1 rfl (.int i)) (kit_str _))) (fun hb _ _ => by cases hb) (fun _ H5 e5 => ws_nil ?_)
      refine ws_retD (d := .bool true) ((vd_and (vd_isi T.isinstance T.int bt_int (vd_var 0 rfl (.int i)) (kit_int _)) fun _ => vd_and (vd_not (vd_isi T.isinstance T.bool bt_bool (vd_var 0 rfl (.int i)) (kit_bool _))) fun _ => vd_one (vd_eq (vd_var 0 rfl (.int i)) (vd_var 1 rfl (.int i)))).to (by simp [isIntB, isBoolB])) fun u H6 e6 du => fin (Evl.Ex.trans e1 (Evl.Ex.trans e2 (Evl.Ex.trans e3 (Evl.Ex.trans e4 e5)))) e6 du
    | str z =>
      obtain rfl := hv.str_v
      obtain rfl := hw.str_v
      refine ws_if (vt_isN (vd_var 1 rfl (.str z))) (fun hb _ _ => by cases hb) (fun _ H2 e2 => ws_nil ?_)
      refine ws_if (vt_isSB (vd_var 1 rfl (.str z))) (fun hb _ _ => by cases hb) (fun _ H3 e3 => ws_nil ?_)
      refine ws_if (vt_isSB (vd_var 1 rfl (.str z))) (fun hb _ _ => by cases hb) (fun _ H4 e4 => ws_nil ?_)
      refine ws_if (vt_val (vd_isi T.isinstance T.str bt_str (vd_var 1 rfl (.str z)) (kit_str _))) (fun _ H5 e5 => ?_) (fun hb _ _ => by cases hb)
      exact ws_retD (d := .bool true) ((vd_and (vd_isi T.isinstance T.str bt_str (vd_var 0 rfl (.str z)) (kit_str _)) fun _ => vd_one (vd_eqS (vd_var 0 rfl (.str z)) (vd_var 1 rfl (.str z)))).to (by simp [isStrB])) fun u H6 e6 du => fin (Evl.Ex.trans e1 (Evl.Ex.trans e2 (Evl.Ex.trans e3 (Evl.Ex.trans e4 e5)))) e6 du
    | tuple ds => exact Bool.noConfusion (show true = false from hb)
    | _ => cases ht
theorem ok_is (T : Nm g.mg) (F : FT g "_law_is" s__law_is) : ∀ n, Fd g "_law_is" ["told", "due"] (n + 1) (spIs g.K n)
  | 0 => (fd_vac F (fun vs H Q E ⟨v, w, d, _, _, _, _, h, _⟩ => by omega) (fun _ _ _ _ _ _ us hl => match us, hl with | [_, _], _ => rfl)).mono (by omega)
  | n + 1 => st_is T F n (ok_is T F n)
end
/-! ### lambdas -/
theorem passLam {X : Cx} {A : Around} {outer : List Env} {s : Shared} {H : Hp} {E : XK} {scope : Scope} {f c' : Addr} : Passes (L2.CX (LamX.lamCx X A outer s H E scope f c').prog (LamX.lamCx X A outer s H E scope f c').w) (LamX.lamCx X A outer s H E scope f c') E := passes_call (takes_of rfl rfl rfl rfl) fun _ _ _ _ z => z
theorem sqL_n {K : PySem.W.Frag} {H H' : Hp} {a : Addr} {xs : List V} (e : LamX.ExtN H H') (h : SqL K H a xs) : SqL K H' a xs := by
  rcases h with (h | ⟨o, h⟩) | h
  · exact .inl (.inl (e a _ h (fun _ z => by cases z)))
  · exact .inl (.inr ⟨o, e a _ h (fun _ z => by cases z)⟩)
  · exact .inr h
theorem sqT_n {K : PySem.W.Frag} {H H' : Hp} {a : Addr} {xs : List V} (e : LamX.ExtN H H') (h : SqT K H a xs) : SqT K H' a xs := by
  rcases h with (h | ⟨o, h⟩) | h
  · exact .inl (.inl (e a _ h (fun _ z => by cases z)))
  · exact .inl (.inr ⟨o, e a _ h (fun _ z => by cases z)⟩)
  · exact .inr h
section
variable {K : PySem.W.Frag} {H H' : Hp}
mutual
theorem dp_n (e : LamX.ExtN H H') : ∀ (d : PyData) (v : V), Dp K H v d → Dp K H' v d
  | .none, _, h => by cases h; exact .non
  | .bool _, _, h => by cases h; exact .bl _
  | .int _, _, h => by cases h; exact .int _
  | .str _, _, h => by cases h; exact .str _
  | .dict _, _, h => by cases h
  | .list ds, _, h => by
    cases h with
    | lst s a => exact .lst (sqL_n e s) (dpAll_n e ds _ a)
  | .tuple ds, _, h => by
    cases h with
    | tup s a => exact .tup (sqT_n e s) (dpAll_n e ds _ a)
theorem dpAll_n (e : LamX.ExtN H H') : ∀ (ds : List PyData) (vs : List V), DpAll K H vs ds → DpAll K H' vs ds
  | [], _, h => by cases h; exact .nil
  | d :: ds, _, h => by
    cases h with
    | cons x y => exact .cons (dp_n e d _ x) (dpAll_n e ds _ y)
end
end
abbrev lamQ (x : Str) : Str := x ++ ".<locals>." ++ "<lambda>"
end G

/-! # X8: _law_read_fault: what is no text -/
namespace G
open PySem PySem.Spec PyProof.Rows L2
def spRF (K : PySem.W.Frag) (T : List (Addr × Str)) : Sp := fun vs H Q _ => ∃ v d, vs = [v] ∧ Dp K H v d ∧ (∀ z, d ≠ .str z) ∧ LamX.Tabs T H ∧ ∀ w H', LamX.ExtN H H' → LamX.Tabs T H' → Dp K H' w (.tuple [.str "text", .int 0, .int 0]) → Q w H'
section
variable {g : Gd} {ca : Str → Addr}
theorem sc_rfault : FnScope ["text"] ["text"] (defScope s__law_read_fault) := ⟨rfl, rfl, rfl, by decide +kernel, rfl, by decide +kernel, by decide +kernel⟩
theorem ok_rfault {c P : Addr} {T : List (Addr × Str)} (nm : Nm g.mg) (ex : EXs g.K g.mg ca) (F : FTC g "_law_read_fault" s__law_read_fault c) (FF : FT g "_law_fault" s__law_fault) (GK : FdE (fun _ => True) g "_law_kinds" ["e"] 2 (spKind g.K ca "BadText" PPt)) (TB : LamX.TabB g.base g.mg c P) (hmT : (P, lamQ "_law_read_fault") ∈ T) (hu : ∀ p ∈ T, p.1 = P → p.2 = lamQ "_law_read_fault") (n : Nat) (GV : Fd g "value_of_text" ["text"] (n + 8) (spOfText g.K (ca "BadText") n)) : Fd g "_law_read_fault" ["text"] (n + 12) (spRF g.K T) := by
  refine fdc_of F sc_rfault (fun _ _ _ _ ⟨v, d, e, _⟩ => by rw [e] <;> rfl) (fun _ _ _ _ _ _ us hl => match us, hl with | [_], _ => rfl) (fun f A outer s H vs Q E hr h => ?_)
  obtain ⟨v, d, rfl, hv, hno, hT, k⟩ := h
  refine ws_ret (we_fault (φ := fun _ => True) (PP := PPt) (k := n + 8) FF (by exact nm) (by exact ex) (x := "BadText") (by decide +kernel) (fun d H t ⟨fs, _, _, h, _⟩ => ⟨fs, h⟩) (fun _ _ => trivial) GK TB rfl hmT hu (hr.mono (by omega)) (LamX.lamS_by (sc := defScope s__law_read_fault) (by decide +kernel)) hT fun H1 e1 hT1 E2 Q2 hq he A' outer' s' H0 f' c' hr' => ?_)
  have err : TextErr (ca "BadText") E2 H1 0 0 := fun dd H' e x => he dd H' _ ⟨_, 0, 0, x, rfl, rfl, rfl⟩ fun w H'' e2 dw => k w H'' (e1.trans (LamX.ExtN.of (Evl.Ex.trans e e2))) (hT1.ext (Evl.Ex.trans e e2)) dw
  refine we_call GV hr' passLam (wa_cons (we_var 0 rfl (wa_nil ⟨v, d, rfl, dp_n e1 _ _ hv, ?_⟩)))
  cases d with
  | str z => exact absurd rfl (hno z)
  | _ => exact err
end
end G

/-! # M1: tokens out of a text: plain laws -/
namespace G
open PySem PySem.Spec PyProof.Rows L2
/-- a text that is one token -/
def GoodT (t : List Nat) : Prop := ∃ c cs, t = c :: cs ∧ c ≠ 32 ∧ ((isFig c = true ∧ cs.all isFig = true) ∨ (isFig c = false ∧ isLet c = true ∧ cs.all isLet = true) ∨ (isFig c = false ∧ isLet c = false ∧ cs = []))
theorem take_all {p : Nat → Bool} {cs r : List Nat} (h : cs.all p = true) (hr : ∀ c, r.head? = some c → p c = false) : (cs ++ r).takeWhile p = cs ∧ (cs ++ r).dropWhile p = r := by
  induction cs with
  | nil =>
    cases r with
    | nil => exact ⟨rfl, rfl⟩
    | cons c r =>
      have := hr c rfl
      simp [List.takeWhile_cons, List.dropWhile_cons, this]
  | cons c cs ih =>
    simp only [List.all_cons, Bool.and_eq_true] at h
    obtain ⟨a, b⟩ := ih h.2
    simp only [List.cons_append, List.takeWhile_cons, List.dropWhile_cons, h.1, if_true]
    exact ⟨by rw [a], b⟩
/-- what may stand behind a token: nothing that it would swallow -/
def Apart (t r : List Nat) : Prop := ∀ c d, t.head? = some c → r.head? = some d → ¬ (isFig c = true ∧ isFig d = true) ∧ ¬ (isLet c = true ∧ isLet d = true)
theorem fig_not_let {c : Nat} (h : isFig c = true) : isLet c = false := by
  unfold isFig at h
  unfold isLet
  simp only [Bool.and_eq_true, decide_eq_true_eq] at h
  simp only [Bool.and_eq_false_iff, decide_eq_false_iff_not]
  omega
theorem tok_app {t r : List Nat} (h : GoodT t) (ha : Apart t r) : tokL (t ++ r) = t :: tokL r := by
  obtain ⟨c, cs, rfl, h32, hk⟩ := h
  rw [List.cons_append, tokL_cons, if_neg h32]
  rcases hk with ⟨h1, h2⟩ | ⟨h1, h2, h3⟩ | ⟨h1, h2, rfl⟩
  · obtain ⟨a, b⟩ := take_all (r := r) h2 fun d hd => by
      have := (ha c d rfl hd).1
      cases e : isFig d with
      | false => rfl
      | true => exact absurd ⟨h1, e⟩ this
    rw [if_pos h1, a, b]
  · obtain ⟨a, b⟩ := take_all (r := r) h3 fun d hd => by
      have := (ha c d rfl hd).2
      cases e : isLet d with
      | false => rfl
      | true => exact absurd ⟨h2, e⟩ this
    rw [if_neg (by rw [h1]; exact Bool.false_ne_true), if_pos h2, a, b]
  · rw [if_neg (by rw [h1]; exact Bool.false_ne_true), if_neg (by rw [h2]; exact Bool.false_ne_true), List.nil_append]
theorem tok_sp (r : List Nat) : tokL (32 :: r) = tokL r := by rw [tokL_cons, if_pos rfl]
theorem apart_sp (t r : List Nat) : Apart t (32 :: r) := fun c d _ hd => by
  obtain rfl : 32 = d := Option.some.inj hd
  exact ⟨fun h => by have := h.2; revert this; decide, fun h => by have := h.2; revert this; decide⟩
/-- joined by a gap of spaces -/
def joinG (g : List Nat) : List (List Nat) → List Nat
  | [] => []
  | [t] => t
  | t :: u :: r => t ++ g ++ joinG g (u :: r)
theorem tok_gap (m : Nat) (r : List Nat) : tokL (List.replicate m 32 ++ r) = tokL r := by
  induction m with
  | zero => rfl
  | succ m ih => rw [List.replicate_succ, List.cons_append, tok_sp, ih]
theorem tok_join (m : Nat) (z : List Nat) (hz : tokL z = []) (hz2 : z = [] ∨ ∃ z', z = 32 :: z') : ∀ ts : List (List Nat), (∀ t ∈ ts, GoodT t) → tokL (joinG (List.replicate (m + 1) 32) ts ++ z) = ts
  | [], _ => hz
  | [t], h => by
    have e := tok_app (h t (List.mem_cons_self ..)) (r := z) (by
      rcases hz2 with rfl | ⟨z', rfl⟩
      · exact fun c d _ hd => by cases hd
      · exact apart_sp _ _)
    rw [joinG, e, hz]
  | t :: u :: r, h => by
    have ih := tok_join m z hz hz2 (u :: r) fun x hx => h x (List.mem_cons_of_mem _ hx)
    rw [joinG, List.append_assoc, List.append_assoc, tok_app (h t (List.mem_cons_self ..)) (by rw [List.replicate_succ, List.cons_append]; exact apart_sp _ _), tok_gap, ih]
/-- glued as the law glues them -/
def NM : List Str → Prop
  | t :: u :: r => Apart (tl t) (tl u) ∧ NM (u :: r)
  | _ => True
theorem glu_head {u : Str} {r : List Str} (h : GoodT (tl u)) : ∃ c rest, gluL (u :: r) = c :: rest ∧ (tl u).head? = some c := by
  obtain ⟨c, cs, e, _⟩ := h
  rw [gluL, e]
  exact ⟨c, _, rfl, rfl⟩
theorem tok_glu : ∀ ts : List Str, (∀ t ∈ ts, GoodT (tl t)) → NM ts → tokL (gluL ts) = ts.map tl
  | [], _, _ => by rw [gluL, tokL_nil]; rfl
  | [t], h, _ => by
    have hg := h t (List.mem_cons_self ..)
    rw [gluL, gluL, List.append_nil]
    split
    · rw [tok_app hg (apart_sp _ _), tok_sp, tokL_nil]
      rfl
    · rw [tok_app hg (fun c d _ hd => by cases hd), tokL_nil]
      rfl
  | t :: u :: r, h, hn => by
    have hg := h t (List.mem_cons_self ..)
    have ih := tok_glu (u :: r) (fun x hx => h x (List.mem_cons_of_mem _ hx)) hn.2
    rw [gluL]
    split
    · rw [List.append_assoc, List.singleton_append, tok_app hg (apart_sp _ _), tok_sp, ih]
      rfl
    · obtain ⟨c, rest, e, hc⟩ := glu_head (r := r) (h u (List.mem_cons_of_mem _ (List.mem_cons_self ..)))
      rw [List.append_nil, tok_app hg (fun a b ha hb => hn.1 a b ha (by rw [e] at hb; rw [hc]; exact hb)), ih]
      rfl
end G

/-! # M2: the tokens of a value -/
namespace G
open PySem PySem.Spec PyProof.Rows L2
theorem numL_head : ∀ n : Nat, (TL.numL n).head? = some 48 → n = 0 := fun n => by
  induction n using Nat.strongRecOn with
  | _ n ih =>
    intro h
    by_cases h10 : n < 10
    · rw [TL.numL_lt h10] at h
      have : 48 + n = 48 := Option.some.inj h
      omega
    · rw [TL.numL_step (by omega)] at h
      have hne := TL.numL_ne (n / 10)
      have h2 : (TL.numL (n / 10)).head? = some 48 := by
        cases e : TL.numL (n / 10) with
        | nil => exact absurd e hne
        | cons c cs => rw [e] at h; exact h
      have := ih (n / 10) (by omega) h2
      omega
theorem tl_numS (n : Nat) : tl (numS (n : Int)) = TL.numL n := TL.tl_num n
theorem num_figs (n : Nat) : (TL.numL n).all isFig = true := List.all_eq_true.mpr fun c hc => by
  have := TL.numL_digits n c hc
  unfold isFig
  simp only [Bool.and_eq_true, decide_eq_true_eq]
  exact this
theorem num_numL {n k : Nat} (hk : 0 < k) (hk4 : k ≤ 400) (h : n < 10 ^ k) : numL 400 (tl (numS (n : Int))) = true := by
  rw [tl_numS]
  have hl := TL.numL_len hk h
  have hne := TL.numL_ne n
  unfold numL
  simp only [Bool.and_eq_true, Bool.or_eq_true, decide_eq_true_eq, Bool.not_eq_true', decide_eq_false_iff_not]
  refine ⟨⟨⟨?_, by omega⟩, num_figs n⟩, ?_⟩
  · cases e : TL.numL n with
    | nil => exact absurd e hne
    | cons c cs => rfl
  · by_cases h0 : n = 0
    · exact .inl (by rw [h0]; rfl)
    · exact .inr fun q => h0 (numL_head n q)
theorem num_val {n k : Nat} (hk : 0 < k) (hk4 : k ≤ 400) (h : n < 10 ^ k) : numOf (numS (n : Int)) = n := by
  have e := TL.int_num (n := n) (Nat.le_trans (TL.numL_len hk h) (by omega))
  unfold numOf numS
  rw [e]
  rfl
theorem good_num (n : Nat) : GoodT (tl (numS (n : Int))) := by
  rw [tl_numS]
  have hf := num_figs n
  cases e : TL.numL n with
  | nil => exact absurd e (TL.numL_ne n)
  | cons c cs =>
    rw [e] at hf
    simp only [List.all_cons, Bool.and_eq_true] at hf
    refine ⟨c, cs, rfl, fun q => ?_, .inl hf⟩
    rw [q] at hf
    exact absurd hf.1 (by decide)
/-- does it begin with a figure -/
def figT (t : Str) : Bool := match (tl t).head? with
  | some c => isFig c
  | none => false
theorem figT_num (n : Nat) : figT (numS (n : Int)) = true := by
  obtain ⟨c, cs, e, _, h⟩ := good_num n
  have hf := num_figs n
  rw [← tl_numS, e] at hf
  unfold figT
  rw [e]
  simp only [List.all_cons, Bool.and_eq_true] at hf
  exact hf.1
/-- signs that stand alone -/
def isSg (t : Str) : Prop := t = "(" ∨ t = ")" ∨ t = "," ∨ t = "-" ∨ t = "/"
theorem good_sg {t : Str} (h : isSg t) : GoodT (tl t) ∧ figT t = false := by
  have one : ∀ c : Nat, tl t = [c] → c ≠ 32 → isFig c = false → isLet c = false → GoodT (tl t) ∧ figT t = false := fun c e h1 h2 h3 => ⟨⟨c, [], e, h1, .inr (.inr ⟨h2, h3, rfl⟩)⟩, by unfold figT; rw [e]; exact h2⟩
  rcases h with rfl | rfl | rfl | rfl | rfl
  · exact one 40 (by decide +kernel) (by decide) (by decide) (by decide)
  · exact one 41 (by decide +kernel) (by decide) (by decide) (by decide)
  · exact one 44 (by decide +kernel) (by decide) (by decide) (by decide)
  · exact one 45 (by decide +kernel) (by decide) (by decide) (by decide)
  · exact one 47 (by decide +kernel) (by decide) (by decide) (by decide)
/-- a value's token: a sign or a number of few figures -/
def VT1 (t : Str) : Prop := isSg t ∨ ∃ n : Nat, t = numS (n : Int) ∧ n < 10 ^ 40
theorem VT1.good {t : Str} (h : VT1 t) : GoodT (tl t) := by
  rcases h with h | ⟨n, rfl, _⟩
  · exact (good_sg h).1
  · exact good_num n
theorem VT1.len {t : Str} (h : VT1 t) : t.length ≤ 40 := by
  rcases h with h | ⟨n, rfl, hn⟩
  · rcases h with rfl | rfl | rfl | rfl | rfl <;> decide +kernel
  · rw [TL.len_tl]
    exact Nat.le_trans (Nat.le_of_eq (congrArg List.length (tl_numS n))) (TL.numL_len (by decide) hn)
theorem VT1.let_ {t : Str} (h : VT1 t) {c : Nat} (hc : (tl t).head? = some c) : isLet c = false := by
  rcases h with h | ⟨n, rfl, hn⟩
  · obtain ⟨c', cs, e, _, k⟩ := (good_sg h).1
    rw [e] at hc
    obtain rfl : c' = c := Option.some.inj hc
    have hf := (good_sg h).2
    unfold figT at hf
    rw [e] at hf
    rcases k with ⟨k, _⟩ | ⟨_, k, _⟩ | ⟨_, k, _⟩
    · exact fig_not_let k
    · exfalso
      have hf2 : isFig c' = false := hf
      rcases h with rfl | rfl | rfl | rfl | rfl
      · rw [show tl ("(" : Str) = [40] by decide +kernel] at e; cases e; revert k; decide
      · rw [show tl (")" : Str) = [41] by decide +kernel] at e; cases e; revert k; decide
      · rw [show tl ("," : Str) = [44] by decide +kernel] at e; cases e; revert k; decide
      · rw [show tl ("-" : Str) = [45] by decide +kernel] at e; cases e; revert k; decide
      · rw [show tl ("/" : Str) = [47] by decide +kernel] at e; cases e; revert k; decide
    · exact k
  · have hf := num_figs n
    rw [← tl_numS] at hf
    cases e : tl (numS (n : Int)) with
    | nil => rw [e] at hc; cases hc
    | cons c' cs =>
      rw [e] at hc hf
      obtain rfl : c' = c := Option.some.inj hc
      simp only [List.all_cons, Bool.and_eq_true] at hf
      exact fig_not_let hf.1
/-- no two numbers side by side -/
def NF : List Str → Prop
  | t :: u :: r => ¬ (figT t = true ∧ figT u = true) ∧ NF (u :: r)
  | _ => True
theorem nf_nm : ∀ {ts : List Str}, (∀ t ∈ ts, VT1 t) → NF ts → NM ts
  | [], _, _ => trivial
  | [_], _, _ => trivial
  | t :: u :: r, h, hn => by
    refine ⟨fun c d hc hd => ⟨fun q => hn.1 ?_, fun q => ?_⟩, nf_nm (fun x hx => h x (List.mem_cons_of_mem _ hx)) hn.2⟩
    · unfold figT
      rw [hc, hd]
      exact q
    · rw [(h t (List.mem_cons_self ..)).let_ hc] at q
      exact absurd q.1 Bool.false_ne_true
def headF (ts : List Str) : Bool := match ts.head? with
  | some t => figT t
  | none => false
def lastF (ts : List Str) : Bool := match ts.getLast? with
  | some t => figT t
  | none => false
theorem nf_app : ∀ {a b : List Str}, NF a → NF b → (lastF a = false ∨ headF b = false) → NF (a ++ b)
  | [], b, _, hb, _ => hb
  | [t], [], _, _, _ => trivial
  | [t], u :: r, _, hb, h => by
    refine ⟨fun q => ?_, hb⟩
    rcases h with h | h
    · have h' : figT t = false := h
      rw [q.1] at h'
      cases h'
    · have h' : figT u = false := h
      rw [q.2] at h'
      cases h'
  | t :: u :: r, b, ha, hb, h => ⟨ha.1, nf_app (a := u :: r) ha.2 hb (by
      rcases h with h | h
      · refine .inl ?_
        unfold lastF at h ⊢
        rw [List.getLast?_cons_cons] at h
        exact h
      · exact .inr h)⟩
theorem numS_int (i : Int) (h : 0 ≤ i) : numS i = numS ((i.natAbs : Nat) : Int) := by
  rw [show ((i.natAbs : Nat) : Int) = i by omega]
theorem sg_minus : isSg "-" := .inr (.inr (.inr (.inl rfl)))
theorem minusT_vt (t : Int) : ∀ x ∈ minusT t, x = ("-" : Str) := by
  unfold minusT
  split
  · intro x hx; exact List.mem_singleton.mp hx
  · intro x hx; cases hx
/-- what is known of a value's tokens -/
structure TokOk (ts : List Str) : Prop where
  vt : ∀ t ∈ ts, VT1 t
  nf : NF ts
  ne : ts ≠ []
  last : ∀ t, ts.getLast? = some t → t ≠ ","
  head : ∀ t, ts.head? = some t → t ≠ ")" ∧ t ≠ "," ∧ t ≠ "/"
theorem num_not_sg (n : Nat) {c : Str} (h : isSg c) : numS (n : Int) ≠ c := fun e => by
  have := (good_sg h).2
  rw [← e, figT_num] at this
  cases this
theorem lastF_snoc (a : List Str) (t : Str) : lastF (a ++ [t]) = figT t := by
  unfold lastF
  rw [List.getLast?_concat]
theorem numTok_ok {m : List Str} (hm : m = [] ∨ m = [("-" : Str)]) {n : Nat} (hn : n < 10 ^ 40) {r : List Str} (hr : r = [] ∨ ∃ k : Nat, k < 10 ^ 40 ∧ r = [("/" : Str), numS (k : Int)]) : TokOk (m ++ numS (n : Int) :: r) := by
  have v1 : VT1 (numS (n : Int)) := .inr ⟨n, rfl, hn⟩
  have hv : ∀ t ∈ numS (n : Int) :: r, VT1 t := by
    intro t ht
    rcases List.mem_cons.mp ht with rfl | ht
    · exact v1
    · rcases hr with rfl | ⟨k, hk, rfl⟩
      · cases ht
      · rcases List.mem_cons.mp ht with rfl | ht
        · exact .inl (.inr (.inr (.inr (.inr rfl))))
        · rw [List.mem_singleton.mp ht]; exact .inr ⟨k, rfl, hk⟩
  have hnf : NF (numS (n : Int) :: r) := by
    rcases hr with rfl | ⟨k, hk, rfl⟩
    · trivial
    · refine ⟨fun q => ?_, fun q => ?_, trivial⟩
      · rw [(good_sg (t := "/") (.inr (.inr (.inr (.inr rfl))))).2] at q; cases q.2
      · rw [(good_sg (t := "/") (.inr (.inr (.inr (.inr rfl))))).2] at q; cases q.1
  have hl : ∀ t, (numS (n : Int) :: r).getLast? = some t → t ≠ "," := by
    intro t ht
    rcases hr with rfl | ⟨k, hk, rfl⟩
    · obtain rfl : numS (n : Int) = t := Option.some.inj ht
      exact num_not_sg n (.inr (.inr (.inl rfl)))
    · obtain rfl : numS (k : Int) = t := Option.some.inj ht
      exact num_not_sg k (.inr (.inr (.inl rfl)))
  rcases hm with rfl | rfl
  · refine ⟨hv, hnf, by simp, hl, fun t ht => ?_⟩
    obtain rfl : numS (n : Int) = t := Option.some.inj ht
    exact ⟨num_not_sg n (.inr (.inl rfl)), num_not_sg n (.inr (.inr (.inl rfl))), num_not_sg n (.inr (.inr (.inr (.inr rfl))))⟩
  · refine ⟨fun t ht => ?_, ⟨fun q => ?_, hnf⟩, by simp, fun t ht => hl t ?_, fun t ht => ?_⟩
    · rcases List.mem_cons.mp ht with rfl | ht
      · exact .inl sg_minus
      · exact hv t ht
    · rw [(good_sg sg_minus).2] at q; cases q.1
    · rw [← ht]; rfl
    · obtain rfl : ("-" : Str) = t := Option.some.inj ht
      decide +kernel
theorem minusT_or (t : Int) : minusT t = [] ∨ minusT t = [("-" : Str)] := by
  unfold minusT
  split
  · exact .inr rfl
  · exact .inl rfl
/-- items with their commas: all but the first -/
theorem tokDs_ok : ∀ (ds : List PyData) (k : Nat), (∀ d ∈ ds, TokOk (tokD d)) → (∀ t ∈ tokDs ds k, VT1 t) ∧ NF (tokDs ds k) ∧ (0 < k → headF (tokDs ds k) = false) ∧ (∀ t, (tokDs ds k).getLast? = some t → t ≠ ",") ∧ (ds ≠ [] → tokDs ds k ≠ [])
  | [], k, _ => ⟨fun t ht => (by cases ht), trivial, fun _ => rfl, fun t ht => (by cases ht), fun h => absurd rfl h⟩
  | d :: ds, k, h => by
    have hd := h d (List.mem_cons_self ..)
    obtain ⟨i1, i2, i3, i4, i5⟩ := tokDs_ok ds (k + 1) fun x hx => h x (List.mem_cons_of_mem _ hx)
    have comma : isSg "," := .inr (.inr (.inl rfl))
    have nfI : NF ((if 0 < k then [("," : Str)] else []) ++ tokD d) := by
      split
      · exact nf_app (a := [","]) trivial hd.nf (.inl (good_sg comma).2)
      · exact hd.nf
    have hne : (if 0 < k then [("," : Str)] else []) ++ tokD d ≠ [] := fun q => hd.ne (List.append_eq_nil_iff.mp q).2
    have lastI : ∀ t, ((if 0 < k then [("," : Str)] else []) ++ tokD d).getLast? = some t → t ≠ "," := fun t ht => by
      rw [List.getLast?_append] at ht
      cases e : (tokD d).getLast? with
      | none => exact absurd (List.getLast?_eq_none_iff.mp e) hd.ne
      | some u =>
        rw [e] at ht
        obtain rfl : u = t := Option.some.inj ht
        exact hd.last _ e
    simp only [tokDs]
    refine ⟨fun t ht => ?_, nf_app nfI i2 (.inr (i3 (by omega))), fun hk => ?_, fun t ht => ?_, fun _ q => hne (List.append_eq_nil_iff.mp q).1⟩
    · rcases List.mem_append.mp ht with ht | ht
      · rcases List.mem_append.mp ht with ht | ht
        · split at ht
          · rw [List.mem_singleton.mp ht]; exact .inl comma
          · cases ht
        · exact hd.vt t ht
      · exact i1 t ht
    · rw [if_pos hk]
      exact (good_sg comma).2
    · rw [List.getLast?_append] at ht
      cases e : (tokDs ds (k + 1)).getLast? with
      | none => rw [e] at ht; exact lastI t ht
      | some u =>
        rw [e] at ht
        obtain rfl : u = t := Option.some.inj ht
        exact i4 _ e
theorem tok_ok : ∀ (n : Nat) {d : PyData}, DVal n d → TokOk (tokD d) := fun n => by
  have ratio : ∀ {m : Nat} {d : PyData}, DVal m d → isRatio d = true → TokOk (tokD d) := fun {m d} h hr => by
    rcases dval_ratio h hr with ⟨i, rfl, hi⟩ | ⟨t, b, rfl, hb, hg, ht, hb2⟩
    · rw [tokD]
      exact numTok_ok (minusT_or i) hi (.inl rfl)
    · rw [tokD, if_pos hr, ratTok]
      exact numTok_ok (minusT_or t) ht (.inr ⟨b.natAbs, hb2, by rw [numS_int b (by omega)]⟩)
  have numOkR : ∀ {d : PyData}, NumOk d → isRatio d = true := fun {d} h => by
    rcases h with ⟨i, rfl, _⟩ | ⟨t, b, rfl, hr, _⟩
    · rfl
    · exact hr
  induction n with
  | zero => exact fun {d} h => ratio (m := 0) h (numOkR h)
  | succ n ih =>
    intro d h
    by_cases hr : isRatio d = true
    · exact ratio h hr
    · rcases h with h | ⟨ds, rfl, hl, h⟩
      · exact absurd (numOkR h) hr
      · obtain ⟨i1, i2, i3, i4, i5⟩ := tokDs_ok ds 0 fun x hx => ih (h x hx)
        rw [tokD, if_neg hr]
        have op : isSg "(" := .inl rfl
        have cl : isSg ")" := .inr (.inl rfl)
        have comma : isSg "," := .inr (.inr (.inl rfl))
        have n1 : NF ([("(" : Str)] ++ tokDs ds 0) := nf_app (a := ["("]) trivial i2 (.inl (good_sg op).2)
        have n2 : NF (([("(" : Str)] ++ tokDs ds 0) ++ (if ds.length = 1 then [("," : Str)] else [])) := nf_app n1 (by split <;> trivial) (.inr (by split; exact (good_sg comma).2; rfl))
        refine ⟨fun t ht => ?_, nf_app n2 trivial (.inr (good_sg cl).2), by simp, fun t ht => ?_, fun t ht => ?_⟩
        · rcases List.mem_append.mp ht with ht | ht
          · rcases List.mem_append.mp ht with ht | ht
            · rcases List.mem_append.mp ht with ht | ht
              · rw [List.mem_singleton.mp ht]; exact .inl op
              · exact i1 t ht
            · split at ht
              · rw [List.mem_singleton.mp ht]; exact .inl comma
              · cases ht
          · rw [List.mem_singleton.mp ht]; exact .inl cl
        · rw [List.getLast?_concat] at ht
          obtain rfl : (")" : Str) = t := Option.some.inj ht
          decide +kernel
        · obtain rfl : ("(" : Str) = t := Option.some.inj ht
          decide +kernel
end G

/-! # M3: the program's text of a value is the law's -/
namespace G
open PySem PySem.Spec PyProof.Rows L2
theorem tl_cat (a b : Str) : tl (a ++ b) = tl a ++ tl b := by
  conv => lhs; rw [← mkS_tl a, ← mkS_tl b, mkS_app]
  rfl
theorem glu_app : ∀ {a b : List Str}, (∀ t, a.getLast? = some t → t ≠ ",") → gluL (a ++ b) = gluL a ++ gluL b
  | [], _, _ => rfl
  | [t], b, h => by
    have : t ≠ "," := h t rfl
    show gluL (t :: b) = gluL [t] ++ gluL b
    rw [gluL, gluL, gluL, if_neg (fun q => this q.1), if_neg (fun q => this q.1)]
    simp
  | t :: u :: r, b, h => by
    have ih := glu_app (a := u :: r) (b := b) fun x hx => h x (by rw [List.getLast?_cons_cons]; exact hx)
    show gluL (t :: ((u :: r) ++ b)) = gluL (t :: u :: r) ++ gluL b
    rw [gluL, gluL, ih]
    simp only [List.append_assoc]
    rfl
theorem glu_comma {ts : List Str} (hne : ts ≠ []) (h : ∀ t, ts.head? = some t → t ≠ ")") : gluL ([("," : Str)] ++ ts) = [44, 32] ++ gluL ts := by
  show gluL ((("," : Str)) :: ts) = _
  rw [gluL, if_pos ⟨rfl, fun q => h _ q rfl⟩, show tl ("," : Str) = [44] by decide +kernel]
  rfl
theorem glu_sg {t : Str} (h : t ≠ ",") (ts : List Str) : gluL (t :: ts) = tl t ++ gluL ts := by
  rw [gluL, if_neg (fun q => h q.1), List.append_nil]
theorem tl_rText (t b : Int) : tl (rText t b) = gluL (minusT t) ++ (tl (numS (t.natAbs : Nat)) ++ (if b = 1 then [] else 47 :: tl (numS b))) := by
  unfold rText
  rw [tl_cat, tl_cat]
  have e1 : tl (if sgn t < 0 then ("-" : Str) else ("" : Str)) = gluL (minusT t) := by
    unfold minusT
    by_cases h : t < 0
    · rw [if_pos (sgn_neg.mpr h), if_pos h]
      decide +kernel
    · rw [if_neg (fun q => h (sgn_neg.mp q)), if_neg h]
      decide +kernel
  have e2 : tl (if b = 1 then ("" : Str) else ("/" : Str) ++ Str.ofString (toString b)) = (if b = 1 then [] else 47 :: tl (numS b)) := by
    split
    · decide +kernel
    · rw [tl_cat, show tl ("/" : Str) = [47] by decide +kernel]
      rfl
  rw [e1, e2, List.append_assoc]
  rfl
theorem minusT_last (t : Int) : ∀ x, (minusT t).getLast? = some x → x ≠ "," := by
  rcases minusT_or t with h | h
  · rw [h]; intro x hx; cases hx
  · rw [h]
    intro x hx
    obtain rfl : ("-" : Str) = x := Option.some.inj hx
    decide +kernel
theorem glu_num (n : Int) (h : 0 ≤ n) (ts : List Str) : gluL (numS n :: ts) = tl (numS n) ++ gluL ts := glu_sg (by rw [numS_int n h]; exact num_not_sg _ (.inr (.inr (.inl rfl)))) ts
/-- texts joined by a comma and a space -/
theorem glu_items : ∀ (ds : List PyData) (k : Nat), (∀ d ∈ ds, TokOk (tokD d)) → gluL (tokDs ds k) = (if 0 < k ∧ ds ≠ [] then [44, 32] else []) ++ TL.joinL [44, 32] (ds.map fun d => gluL (tokD d))
  | [], k, _ => by simp [tokDs, gluL, TL.joinL]
  | [d], k, h => by
    have hd := h d (List.mem_cons_self ..)
    simp only [tokDs, List.append_nil, List.map_cons, List.map_nil, TL.joinL]
    by_cases hk : 0 < k
    · rw [if_pos hk, if_pos ⟨hk, by simp⟩, glu_comma hd.ne fun t ht => (hd.head t ht).1]
    · rw [if_neg hk, if_neg (fun q => hk q.1)]
      rfl
  | d :: e :: ds, k, h => by
    have hd := h d (List.mem_cons_self ..)
    have ih := glu_items (e :: ds) (k + 1) fun x hx => h x (List.mem_cons_of_mem _ hx)
    have lastI : ∀ t, ((if 0 < k then [("," : Str)] else []) ++ tokD d).getLast? = some t → t ≠ "," := fun t ht => by
      rw [List.getLast?_append] at ht
      cases q : (tokD d).getLast? with
      | none => exact absurd (List.getLast?_eq_none_iff.mp q) hd.ne
      | some u =>
        rw [q] at ht
        obtain rfl : u = t := Option.some.inj ht
        exact hd.last _ q
    have c1 : 0 < k + 1 ∧ e :: ds ≠ [] := ⟨by omega, by simp⟩
    rw [tokDs, glu_app lastI, ih, if_pos c1]
    have hj : TL.joinL [44, 32] ((d :: e :: ds).map fun d => gluL (tokD d)) = gluL (tokD d) ++ ([44, 32] ++ TL.joinL [44, 32] ((e :: ds).map fun d => gluL (tokD d))) := rfl
    rw [hj]
    by_cases hk : 0 < k
    · have c2 : 0 < k ∧ d :: e :: ds ≠ [] := ⟨hk, by simp⟩
      rw [if_pos hk, if_pos c2, glu_comma hd.ne fun t ht => (hd.head t ht).1]
      simp only [List.append_assoc]
    · rw [if_neg hk, if_neg (fun q => hk q.1)]
      rfl
theorem textVs_map : ∀ ds : List PyData, textVs ds = ds.map textV
  | [] => rfl
  | d :: ds => by rw [textVs, textVs_map ds]; rfl
theorem text_glu : ∀ (n : Nat) {d : PyData}, DVal n d → tl (textV d) = gluL (tokD d) := fun n => by
  have ratio : ∀ {m : Nat} {d : PyData}, DVal m d → isRatio d = true → tl (textV d) = gluL (tokD d) := fun {m d} h hr => by
    rcases dval_ratio h hr with ⟨i, rfl, hi⟩ | ⟨t, b, rfl, hb, hg, ht, hb2⟩
    · rw [textV, tokD, tl_rText, glu_app (minusT_last i), glu_num _ (by omega), if_pos rfl]
      rfl
    · rw [textV, if_pos hr, rText2, tokD, if_pos hr, ratTok, tl_rText, glu_app (minusT_last t), glu_num _ (by omega), if_neg (by omega), glu_sg (by decide +kernel), show tl ("/" : Str) = [47] by decide +kernel, glu_num b (by omega)]
      simp [gluL]
  have numOkR : ∀ {d : PyData}, NumOk d → isRatio d = true := fun {d} h => by
    rcases h with ⟨i, rfl, _⟩ | ⟨t, b, rfl, hr, _⟩
    · rfl
    · exact hr
  induction n with
  | zero => exact fun {d} h => ratio (m := 0) h (numOkR h)
  | succ n ih =>
    intro d h
    by_cases hr : isRatio d = true
    · exact ratio h hr
    · rcases h with h | ⟨ds, rfl, hl, h⟩
      · exact absurd (numOkR h) hr
      · have oks : ∀ x ∈ ds, TokOk (tokD x) := fun x hx => tok_ok n (h x hx)
        obtain ⟨i1, i2, i3, i4, i5⟩ := tokDs_ok ds 0 oks
        have hmap : ds.map (fun d => gluL (tokD d)) = (textVs ds).map tl := by
          rw [textVs_map, List.map_map]
          exact List.map_congr_left fun x hx => (ih (h x hx)).symm
        have g1 := glu_items ds 0 oks
        rw [if_neg (fun q => absurd q.1 (Nat.lt_irrefl 0)), List.nil_append, hmap] at g1
        have op : tl ("(" : Str) = [40] := by decide +kernel
        have cl : tl (")" : Str) = [41] := by decide +kernel
        rw [tokD, if_neg hr, textV, if_neg hr]
        have split1 : ∀ r : List Str, gluL (([("(" : Str)] ++ tokDs ds 0) ++ r) = [40] ++ (gluL (tokDs ds 0) ++ gluL r) := fun r => by
          show gluL (("(" : Str) :: (tokDs ds 0 ++ r)) = _
          rw [glu_sg (by decide +kernel), op, glu_app i4]
        rw [List.append_assoc, split1, g1]
        split
        · rename_i h1
          obtain ⟨x, rfl⟩ : ∃ x, ds = [x] := by
            match ds, h1 with
            | [x], _ => exact ⟨x, rfl⟩
          rw [tl_cat, tl_cat, op, show tl (",)" : Str) = [44, 41] by decide +kernel, show gluL ([("," : Str)] ++ [(")" : Str)]) = [44, 41] by decide +kernel]
          simp [textVs, TL.joinL]
        · rw [tl_cat, tl_cat, op, cl, show gluL (([] : List Str) ++ [(")" : Str)]) = [41] by decide +kernel, TL.join_eq, show tl (Str.join ", " (textVs ds)) = TL.joinL (tl (", " : Str)) ((textVs ds).map tl) from TL.tl_join _ _, show tl (", " : Str) = [44, 32] by decide +kernel, List.append_assoc]
end G

/-! # M4: the tokens of a value are read as that value -/
namespace G
open PySem PySem.Spec PyProof.Rows L2
theorem at_pre (pre r : List Str) : (pre ++ r)[pre.length]? = r.head? := by
  rw [List.getElem?_append_right (Nat.le_refl _), Nat.sub_self]
  cases r <;> rfl
theorem at_pre1 (pre : List Str) (a : Str) (r : List Str) : (pre ++ a :: r)[pre.length + 1]? = r.head? := by
  have := at_pre (pre ++ [a]) r
  rw [List.append_assoc, List.length_append] at this
  exact this
theorem tok_of {ts : List Str} {i : Nat} {t : Str} (h : ts[i]? = some t) : tok ts i = t := by unfold tok; rw [h]; rfl
theorem pNum_of {ts : List Str} {i n : Nat} (h : ts[i]? = some (numS (n : Int))) (hn : n < 10 ^ 40) : pNum ts i = .ok ((n : Int), i + 1) := by
  have e := tok_of h
  unfold pNum
  rw [e, if_pos (num_numL (k := 40) (by decide) (by decide) hn), num_val (k := 40) (by decide) (by decide) hn]
theorem some_ne {o : Option Str} {t : Str} (h : ∀ x, o = some x → x ≠ t) : ¬ o = some t := fun q => h t q rfl
/-- a number: sign, top, and maybe a bottom -/
theorem pRat_int {pre post : List Str} {t : Int} (ht : t.natAbs < 10 ^ 40) (hpost : ∀ x, post.head? = some x → x ≠ "/") : pRat (pre ++ (minusT t ++ numS (t.natAbs : Nat) :: post)) pre.length = .ok (.int t, pre.length + (minusT t).length + 1) := by
  unfold pRat minusT
  by_cases hneg : t < 0
  · rw [if_pos hneg]
    have h0 : (pre ++ ([("-" : Str)] ++ numS (t.natAbs : Nat) :: post))[pre.length]? = some ("-" : Str) := at_pre _ _
    have h1 : (pre ++ ([("-" : Str)] ++ numS (t.natAbs : Nat) :: post))[pre.length + 1]? = some (numS (t.natAbs : Nat)) := at_pre1 pre "-" _
    have h2 : (pre ++ ([("-" : Str)] ++ numS (t.natAbs : Nat) :: post))[pre.length + 1 + 1]? = post.head? := by
      have := at_pre1 (pre ++ [("-" : Str)]) (numS (t.natAbs : Nat)) post
      rw [List.append_assoc, List.length_append] at this
      exact this
    rw [h0, if_pos rfl, pNum_of h1 ht]
    simp only
    rw [if_neg (fun q => by have := q.2; omega), if_neg (fun q => some_ne hpost (by rw [← h2]; exact q.2))]
    show Except.ok (PyData.int (-((t.natAbs : Nat) : Int)), _) = _
    rw [show -((t.natAbs : Nat) : Int) = t by omega]
    rfl
  · rw [if_neg hneg, List.nil_append]
    have h0 : (pre ++ numS (t.natAbs : Nat) :: post)[pre.length]? = some (numS (t.natAbs : Nat)) := at_pre _ _
    have h2 : (pre ++ numS (t.natAbs : Nat) :: post)[pre.length + 1]? = post.head? := at_pre1 _ _ _
    have hm : ¬ some (numS ((t.natAbs : Nat) : Int)) = some ("-" : Str) := fun q => num_not_sg _ sg_minus (Option.some.inj q)
    rw [h0, if_neg hm, pNum_of h0 ht]
    simp only
    rw [if_neg (fun q => hm q.1), if_neg (fun q => some_ne hpost (by rw [← h2]; exact q.2)), decide_eq_false hm]
    show Except.ok (PyData.int ((t.natAbs : Nat) : Int), _) = _
    rw [show ((t.natAbs : Nat) : Int) = t by omega]
    rfl
theorem pRat_rat {pre post : List Str} {t b : Int} (hb : 1 < b) (hg : Nat.gcd t.natAbs b.natAbs = 1) (ht : t.natAbs < 10 ^ 40) (hb2 : b.natAbs < 10 ^ 40) : pRat (pre ++ (minusT t ++ numS (t.natAbs : Nat) :: "/" :: numS b :: post)) pre.length = .ok (.tuple [.int t, .int b], pre.length + (minusT t).length + 3) := by
  have ht0 : t ≠ 0 := fun q => by
    rw [q] at hg
    simp only [Int.natAbs_zero, Nat.gcd_zero_left] at hg
    omega
  have hbn : numS b = numS ((b.natAbs : Nat) : Int) := numS_int b (by omega)
  have hrat : isRatio (.tuple [.int ((t.natAbs : Nat) : Int), .int ((b.natAbs : Nat) : Int)]) = true := by
    unfold isRatio
    simp only [Bool.and_eq_true, decide_eq_true_eq, Int.natAbs_natCast]
    exact ⟨by omega, hg⟩
  unfold pRat minusT
  by_cases hneg : t < 0
  · rw [if_pos hneg]
    generalize hr : numS (t.natAbs : Nat) :: "/" :: numS b :: post = r
    have h0 : (pre ++ ([("-" : Str)] ++ r))[pre.length]? = some ("-" : Str) := at_pre _ _
    have h1 : (pre ++ ([("-" : Str)] ++ r))[pre.length + 1]? = some (numS (t.natAbs : Nat)) := by rw [← hr]; exact at_pre1 pre "-" _
    have h2 : (pre ++ ([("-" : Str)] ++ r))[pre.length + 1 + 1]? = some ("/" : Str) := by
      have := at_pre1 (pre ++ [("-" : Str)]) (numS (t.natAbs : Nat)) ("/" :: numS b :: post)
      rw [List.append_assoc, List.length_append] at this
      rw [← hr]
      exact this
    have h3 : (pre ++ ([("-" : Str)] ++ r))[pre.length + 1 + 1 + 1]? = some (numS ((b.natAbs : Nat) : Int)) := by
      have := at_pre1 (pre ++ [("-" : Str), numS (t.natAbs : Nat)]) "/" (numS b :: post)
      rw [List.append_assoc, List.length_append] at this
      rw [← hr, ← hbn]
      exact this
    rw [h0, if_pos rfl, pNum_of h1 ht]
    simp only
    rw [if_neg (fun q => by have := q.2; omega), if_pos ⟨by omega, h2⟩, pNum_of h3 hb2]
    simp only
    rw [if_pos hrat]
    show Except.ok (PyData.tuple [.int (-((t.natAbs : Nat) : Int)), .int ((b.natAbs : Nat) : Int)], _) = _
    rw [show -((t.natAbs : Nat) : Int) = t by omega, show ((b.natAbs : Nat) : Int) = b by omega]
    rfl
  · rw [if_neg hneg, List.nil_append]
    have h0 : (pre ++ numS (t.natAbs : Nat) :: "/" :: numS b :: post)[pre.length]? = some (numS (t.natAbs : Nat)) := at_pre _ _
    have h2 : (pre ++ numS (t.natAbs : Nat) :: "/" :: numS b :: post)[pre.length + 1]? = some ("/" : Str) := at_pre1 _ _ _
    have h3 : (pre ++ numS (t.natAbs : Nat) :: "/" :: numS b :: post)[pre.length + 1 + 1]? = some (numS ((b.natAbs : Nat) : Int)) := by
      have := at_pre1 (pre ++ [numS (t.natAbs : Nat)]) "/" (numS b :: post)
      rw [List.append_assoc, List.length_append] at this
      rw [← hbn]
      exact this
    have hm : ¬ some (numS ((t.natAbs : Nat) : Int)) = some ("-" : Str) := fun q => num_not_sg _ sg_minus (Option.some.inj q)
    rw [h0, if_neg hm, pNum_of h0 ht]
    simp only
    rw [if_neg (fun q => hm q.1), if_pos ⟨by omega, h2⟩, pNum_of h3 hb2]
    simp only
    rw [if_pos hrat, decide_eq_false hm]
    show Except.ok (PyData.tuple [.int ((t.natAbs : Nat) : Int), .int ((b.natAbs : Nat) : Int)], _) = _
    rw [show ((t.natAbs : Nat) : Int) = t by omega, show ((b.natAbs : Nat) : Int) = b by omega]
    rfl
/-- d is read wherever it stands -/
def Reads1 (n : Nat) (d : PyData) : Prop := ∀ pre post : List Str, (∀ x, post.head? = some x → x ≠ "/") → pVal (pre ++ (tokD d ++ post)) n pre.length = some (.ok (d, pre.length + (tokD d).length))
theorem more_read {n : Nat} {post : List Str} : ∀ (r : List PyData) (k m : Nat) (pre : List Str) (vs : List PyData), 0 < k → r.length < m → (∀ d ∈ r, Reads1 n d) →
    pMore (pVal (pre ++ (tokDs r k ++ (")" : Str) :: post)) n) (pre ++ (tokDs r k ++ (")" : Str) :: post)) m vs pre.length = some (.ok (.tuple (vs ++ r), pre.length + (tokDs r k).length + 1))
  | [], k, 0, pre, vs, hk, hm, h => absurd hm (Nat.not_lt_zero _)
  | _ :: _, k, 0, pre, vs, hk, hm, h => absurd hm (Nat.not_lt_zero _)
  | [], k, m + 1, pre, vs, hk, hm, h => by
    have h0 : (pre ++ (tokDs [] k ++ (")" : Str) :: post))[pre.length]? = some (")" : Str) := at_pre _ _
    unfold pMore
    rw [h0, if_neg (by decide +kernel), if_pos rfl, List.append_nil]
    rfl
  | d :: r, k, m + 1, pre, vs, hk, hm, h => by
    have e1 : pre ++ (tokDs (d :: r) k ++ (")" : Str) :: post) = (pre ++ [("," : Str)]) ++ (tokD d ++ (tokDs r (k + 1) ++ (")" : Str) :: post)) := by
      rw [tokDs, if_pos hk]
      simp only [List.append_assoc]
    have e2 : pre ++ (tokDs (d :: r) k ++ (")" : Str) :: post) = (pre ++ [("," : Str)] ++ tokD d) ++ (tokDs r (k + 1) ++ (")" : Str) :: post) := by rw [e1]; simp only [List.append_assoc]
    have h0 : (pre ++ (tokDs (d :: r) k ++ (")" : Str) :: post))[pre.length]? = some ("," : Str) := by rw [e1, List.append_assoc]; exact at_pre _ _
    have hpost : ∀ x, (tokDs r (k + 1) ++ (")" : Str) :: post).head? = some x → x ≠ "/" := fun x hx => by
      cases r with
      | nil =>
        obtain rfl : (")" : Str) = x := Option.some.inj hx
        decide +kernel
      | cons y r =>
        rw [tokDs, if_pos (by omega)] at hx
        obtain rfl : ("," : Str) = x := Option.some.inj hx
        decide +kernel
    have hd := h d (List.mem_cons_self ..) (pre ++ [("," : Str)]) _ hpost
    have hl : (pre ++ [("," : Str)]).length = pre.length + 1 := by simp
    rw [← e1, hl] at hd
    have ih := more_read (n := n) (post := post) r (k + 1) m (pre ++ [("," : Str)] ++ tokD d) (vs ++ [d]) (by omega) (by simpa using hm) fun x hx => h x (List.mem_cons_of_mem _ hx)
    rw [← e2] at ih
    unfold pMore
    rw [h0, if_pos rfl, hd]
    simp only
    rw [show pre.length + 1 + (tokD d).length = (pre ++ [("," : Str)] ++ tokD d).length by simp; omega, ih, List.append_assoc]
    congr 3
    rw [tokDs, if_pos hk]
    simp only [List.length_append, List.length_cons, List.length_nil]
    omega
end G

/-! # M5: all of it read; few brackets are enough; bounds -/
namespace G
open PySem PySem.Spec PyProof.Rows L2
theorem val_read : ∀ (n : Nat) {d : PyData} (m : Nat), DVal n d → n + 1 ≤ m → Reads1 m d := fun n => by
  have numOkR : ∀ {d : PyData}, NumOk d → isRatio d = true := fun {d} h => by
    rcases h with ⟨i, rfl, _⟩ | ⟨t, b, rfl, hr, _⟩
    · rfl
    · exact hr
  have ratio : ∀ {k : Nat} {d : PyData} (m : Nat), DVal k d → isRatio d = true → Reads1 (m + 1) d := fun {k d} m h hr pre post hpost => by
    have no : ∀ (t : Int) (r : List Str), ¬ ((pre ++ (minusT t ++ numS (t.natAbs : Nat) :: r))[pre.length]? = some ("(" : Str)) := fun t r q => by
      rw [at_pre] at q
      rcases minusT_or t with e | e
      · rw [e] at q
        exact num_not_sg _ (.inl rfl) (Option.some.inj q)
      · rw [e] at q
        have : ("-" : Str) = "(" := Option.some.inj q
        revert this
        decide +kernel
    unfold pVal
    rcases dval_ratio h hr with ⟨i, rfl, hi⟩ | ⟨t, b, rfl, hb, hg, ht, hb2⟩
    · have e : tokD (.int i) ++ post = minusT i ++ numS (i.natAbs : Nat) :: post := by
        rw [tokD, List.append_assoc]
        rfl
      rw [e, if_neg (no _ _), pRat_int hi hpost, tokD, List.length_append]
      rfl
    · have e : tokD (.tuple [.int t, .int b]) ++ post = minusT t ++ numS (t.natAbs : Nat) :: "/" :: numS b :: post := by
        rw [tokD, if_pos hr, ratTok, List.append_assoc]
        rfl
      rw [e, if_neg (no _ _), pRat_rat hb hg ht hb2, tokD, if_pos hr, ratTok, List.length_append]
      rfl
  induction n with
  | zero =>
    intro d m h hm
    obtain ⟨m, rfl⟩ : ∃ m', m = m' + 1 := ⟨m - 1, by omega⟩
    exact ratio (k := 0) m h (numOkR h)
  | succ n ih =>
    intro d m h hm
    obtain ⟨m, rfl⟩ : ∃ m', m = m' + 1 := ⟨m - 1, by omega⟩
    by_cases hr : isRatio d = true
    · exact ratio m h hr
    · rcases h with h | ⟨ds, rfl, hl, h⟩
      · exact absurd (numOkR h) hr
      · have rd : ∀ x ∈ ds, Reads1 m x := fun x hx => ih m (h x hx) (by omega)
        have oks : ∀ x ∈ ds, TokOk (tokD x) := fun x hx => tok_ok n (h x hx)
        intro pre post hpost
        have c1 : ¬ some ("(" : Str) = some (")" : Str) := by decide +kernel
        match ds, hl, h, rd, oks, hr with
        | [], _, _, _, _, hr =>
          rw [tokD, if_neg hr]
          have h0 : (pre ++ ([("(" : Str), ")"] ++ post))[pre.length]? = some ("(" : Str) := at_pre _ _
          have h1 : (pre ++ ([("(" : Str), ")"] ++ post))[pre.length + 1]? = some (")" : Str) := at_pre1 pre "(" _
          show pVal (pre ++ ([("(" : Str), ")"] ++ post)) (m + 1) pre.length = _
          unfold pVal
          rw [if_pos h0, if_pos h1]
          rfl
        | [x], _, h, rd, oks, hr =>
          have ox := oks x (List.mem_cons_self ..)
          have et : tokD (.tuple [x]) ++ post = ("(" : Str) :: (tokD x ++ (("," : Str) :: (")" : Str) :: post)) := by
            rw [tokD, if_neg hr]
            simp [tokDs]
          rw [et]
          generalize hts : pre ++ ("(" : Str) :: (tokD x ++ (("," : Str) :: (")" : Str) :: post)) = ts
          have h0 : ts[pre.length]? = some ("(" : Str) := by rw [← hts]; exact at_pre _ _
          have h1 : ts[pre.length + 1]? = (tokD x ++ (("," : Str) :: ")" :: post)).head? := by rw [← hts]; exact at_pre1 _ _ _
          have n1 : ¬ ts[pre.length + 1]? = some (")" : Str) := fun q => by
            rw [h1] at q
            cases e : tokD x with
            | nil => exact ox.ne e
            | cons a r =>
              rw [e] at q
              exact (ox.head a (by rw [e]; rfl)).1 (Option.some.inj q)
          have hx := rd x (List.mem_cons_self ..) (pre ++ [("(" : Str)]) (("," : Str) :: (")" : Str) :: post) (fun y hy => by
            obtain rfl : ("," : Str) = y := Option.some.inj hy
            decide +kernel)
          have ex : (pre ++ [("(" : Str)]) ++ (tokD x ++ (("," : Str) :: ")" :: post)) = ts := by rw [← hts]; simp
          have lx : (pre ++ [("(" : Str)]).length = pre.length + 1 := by simp
          rw [ex, lx] at hx
          have h2 : ts[pre.length + 1 + (tokD x).length]? = some ("," : Str) := by
            have := at_pre (pre ++ [("(" : Str)] ++ tokD x) (("," : Str) :: ")" :: post)
            rw [List.append_assoc, ex, List.length_append, lx] at this
            exact this
          have h3 : ts[pre.length + 1 + (tokD x).length + 1]? = some (")" : Str) := by
            have := at_pre1 (pre ++ [("(" : Str)] ++ tokD x) ("," : Str) (")" :: post)
            rw [List.append_assoc, ex, List.length_append, lx] at this
            exact this
          unfold pVal
          rw [if_pos h0, if_neg n1, hx]
          simp only
          rw [if_pos h2, if_pos h3]
          congr 3
          rw [tokD, if_neg hr]
          simp [tokDs]
          omega
        | x :: y :: r, hl, h, rd, oks, hr =>
          have ox := oks x (List.mem_cons_self ..)
          have oy := oks y (List.mem_cons_of_mem _ (List.mem_cons_self ..))
          have et : tokD (.tuple (x :: y :: r)) ++ post = ("(" : Str) :: (tokD x ++ (("," : Str) :: (tokD y ++ (tokDs r 2 ++ (")" : Str) :: post)))) := by
            rw [tokD, if_neg hr]
            simp [tokDs]
          rw [et]
          generalize hts : pre ++ ("(" : Str) :: (tokD x ++ (("," : Str) :: (tokD y ++ (tokDs r 2 ++ (")" : Str) :: post)))) = ts
          have h0 : ts[pre.length]? = some ("(" : Str) := by rw [← hts]; exact at_pre _ _
          have h1 : ts[pre.length + 1]? = (tokD x ++ (("," : Str) :: (tokD y ++ (tokDs r 2 ++ (")" : Str) :: post)))).head? := by rw [← hts]; exact at_pre1 _ _ _
          have hne : ∀ {z : PyData} {rest : List Str}, TokOk (tokD z) → ¬ (tokD z ++ rest).head? = some (")" : Str) := fun {z rest} oz q => by
            cases e : tokD z with
            | nil => exact oz.ne e
            | cons a b =>
              rw [e] at q
              exact (oz.head a (by rw [e]; rfl)).1 (Option.some.inj q)
          have hx := rd x (List.mem_cons_self ..) (pre ++ [("(" : Str)]) (("," : Str) :: (tokD y ++ (tokDs r 2 ++ (")" : Str) :: post))) (fun y hy => by
            obtain rfl : ("," : Str) = y := Option.some.inj hy
            decide +kernel)
          have ex : (pre ++ [("(" : Str)]) ++ (tokD x ++ (("," : Str) :: (tokD y ++ (tokDs r 2 ++ (")" : Str) :: post)))) = ts := by rw [← hts]; simp
          have lx : (pre ++ [("(" : Str)]).length = pre.length + 1 := by simp
          rw [ex, lx] at hx
          have h2 : ts[pre.length + 1 + (tokD x).length]? = some ("," : Str) := by
            have := at_pre (pre ++ [("(" : Str)] ++ tokD x) (("," : Str) :: (tokD y ++ (tokDs r 2 ++ (")" : Str) :: post)))
            rw [List.append_assoc, ex, List.length_append, lx] at this
            exact this
          have h3 : ts[pre.length + 1 + (tokD x).length + 1]? = (tokD y ++ (tokDs r 2 ++ (")" : Str) :: post)).head? := by
            have := at_pre1 (pre ++ [("(" : Str)] ++ tokD x) ("," : Str) (tokD y ++ (tokDs r 2 ++ (")" : Str) :: post))
            rw [List.append_assoc, ex, List.length_append, lx] at this
            exact this
          have hpy : ∀ z, (tokDs r 2 ++ (")" : Str) :: post).head? = some z → z ≠ "/" := fun z hz => by
            cases r with
            | nil =>
              obtain rfl : (")" : Str) = z := Option.some.inj hz
              decide +kernel
            | cons w r =>
              rw [tokDs, if_pos (by omega)] at hz
              obtain rfl : ("," : Str) = z := Option.some.inj hz
              decide +kernel
          have hy := rd y (List.mem_cons_of_mem _ (List.mem_cons_self ..)) (pre ++ [("(" : Str)] ++ tokD x ++ [("," : Str)]) (tokDs r 2 ++ (")" : Str) :: post) hpy
          have ey : (pre ++ [("(" : Str)] ++ tokD x ++ [("," : Str)]) ++ (tokD y ++ (tokDs r 2 ++ (")" : Str) :: post)) = ts := by rw [← hts]; simp
          have ly : (pre ++ [("(" : Str)] ++ tokD x ++ [("," : Str)]).length = pre.length + 1 + (tokD x).length + 1 := by simp; omega
          rw [ey, ly] at hy
          have hm2 := more_read (n := m) (post := post) r 2 ts.length (pre ++ [("(" : Str)] ++ tokD x ++ [("," : Str)] ++ tokD y) [x, y] (by omega) (by
            rw [← hts]
            simp only [List.length_append, List.length_cons]
            simp only [List.length_cons] at hl
            have : 1 ≤ (tokD x).length := by
              cases e : tokD x with
              | nil => exact absurd e ox.ne
              | cons a b => simp
            omega) fun z hz => rd z (List.mem_cons_of_mem _ (List.mem_cons_of_mem _ hz))
          have em : (pre ++ [("(" : Str)] ++ tokD x ++ [("," : Str)] ++ tokD y) ++ (tokDs r 2 ++ (")" : Str) :: post) = ts := by rw [← ey]; simp
          have lm : (pre ++ [("(" : Str)] ++ tokD x ++ [("," : Str)] ++ tokD y).length = pre.length + 1 + (tokD x).length + 1 + (tokD y).length := by rw [List.length_append, ly]
          rw [em, lm] at hm2
          unfold pVal
          rw [if_pos h0, if_neg (by rw [h1]; exact hne ox), hx]
          simp only
          rw [if_pos h2, if_neg (by rw [h3]; exact hne oy), hy]
          simp only
          rw [hm2]
          congr 3
          rw [tokD, if_neg hr]
          simp [tokDs]
          omega
theorem all_read {n m : Nat} {d : PyData} (h : DVal n d) (hm : n + 1 ≤ m) : pAll (tokD d) m 0 = some (.ok d) := by
  have := val_read n m h hm [] [] (fun x hx => by cases hx)
  rw [List.nil_append, List.append_nil] at this
  unfold pAll
  rw [show ([] : List Str).length = 0 from rfl] at this
  rw [this]
  simp only
  rw [if_pos (by omega)]
end G

/-! # M6: bounds; few brackets are enough -/
namespace G
open PySem PySem.Spec PyProof.Rows L2
theorem small40 {i : Int} (h : i.natAbs < 10 ^ 40) : ((i.natAbs : Nat) : Int) < 10 ^ 400 := by
  have e : (10 : Int) ^ 40 = ((10 ^ 40 : Nat) : Int) := by decide +kernel
  have e2 : (10 : Int) ^ 40 < 10 ^ 400 := by decide +kernel
  rw [e] at e2
  exact Int.lt_trans (Int.ofNat_lt.mpr h) e2
theorem one40 : (1 : Int) < 10 ^ 400 := by decide +kernel
theorem numOk_cases {v : PyData} (h : NumOk v) : (∃ i : Int, v = .int i ∧ i.natAbs < 10 ^ 40) ∨ ∃ t b : Int, v = .tuple [.int t, .int b] ∧ isRatio v = true ∧ t.natAbs < 10 ^ 40 ∧ b.natAbs < 10 ^ 40 := h
theorem dval_plain : ∀ (n : Nat) {d : PyData} (k : Int), DVal n d → 0 ≤ k → k + n < 50 → isPlain d k = true := fun n => by
  have ratio : ∀ {m : Nat} {d : PyData} (k : Int), DVal m d → isRatio d = true → isPlain d k = true := fun {m d} k h hr => by
    rcases dval_ratio h hr with ⟨i, rfl, hi⟩ | ⟨t, b, rfl, hb, hg, ht, hb2⟩
    · rw [isPlain, smallR, decide_eq_true (small40 hi), decide_eq_true one40]
      rfl
    · rw [isPlain, if_pos hr, small2, smallR, decide_eq_true (small40 ht)]
      have := small40 hb2
      rw [decide_eq_true (by omega)]
      rfl
  have numOkR : ∀ {d : PyData}, NumOk d → isRatio d = true := fun {d} h => by
    rcases h with ⟨i, rfl, _⟩ | ⟨t, b, rfl, hr, _⟩
    · rfl
    · exact hr
  induction n with
  | zero => exact fun {d} k h _ _ => ratio (m := 0) k h (numOkR h)
  | succ n ih =>
    intro d k h h0 hk
    by_cases hr : isRatio d = true
    · exact ratio k h hr
    · rcases h with h | ⟨ds, rfl, hl, h⟩
      · exact absurd (numOkR h) hr
      · rw [isPlain, if_neg hr, decide_eq_true (by omega), Bool.true_and, isPlains_map, List.all_map, List.all_eq_true]
        exact fun x hx => ih (k + 1) (h x hx) (by omega) (by omega)
theorem dval_talks : ∀ (n : Nat) {d : PyData}, DVal n d → talks d = true := fun n => by
  have ratio : ∀ {m : Nat} {d : PyData}, DVal m d → isRatio d = true → talks d = true := fun {m d} h hr => by
    rcases dval_ratio h hr with ⟨i, rfl, hi⟩ | ⟨t, b, rfl, hb, hg, ht, hb2⟩
    · rw [talks]
      exact decide_eq_true (Nat.lt_trans hi (by decide +kernel))
    · rw [talks, if_pos hr, small2, smallR, decide_eq_true (small40 ht)]
      have := small40 hb2
      rw [decide_eq_true (by omega)]
      rfl
  have numOkR : ∀ {d : PyData}, NumOk d → isRatio d = true := fun {d} h => by
    rcases h with ⟨i, rfl, _⟩ | ⟨t, b, rfl, hr, _⟩
    · rfl
    · exact hr
  have allT : ∀ ds : List PyData, (∀ d ∈ ds, talks d = true) → talksAll ds = true := fun ds => by
    induction ds with
    | nil => exact fun _ => rfl
    | cons x xs ih =>
      intro h
      rw [talksAll, h x (List.mem_cons_self ..), ih fun y hy => h y (List.mem_cons_of_mem _ hy)]
      rfl
  induction n with
  | zero => exact fun {d} h => ratio (m := 0) h (numOkR h)
  | succ n ih =>
    intro d h
    by_cases hr : isRatio d = true
    · exact ratio h hr
    · rcases h with h | ⟨ds, rfl, hl, h⟩
      · exact absurd (numOkR h) hr
      · rw [talks, if_neg hr]
        exact allT ds fun x hx => ih (h x hx)
theorem lensAll_of : ∀ {ds : List PyData}, (∀ d ∈ ds, lens d = true) → lensAll ds = true
  | [], _ => rfl
  | x :: xs, h => by rw [lensAll, h x (List.mem_cons_self ..), lensAll_of fun y hy => h y (List.mem_cons_of_mem _ hy)]; rfl
theorem tidyAll_of : ∀ {ds : List PyData}, (∀ d ∈ ds, tidy d = true) → tidyAll ds = true
  | [], _ => rfl
  | x :: xs, h => by rw [tidyAll, h x (List.mem_cons_self ..), tidyAll_of fun y hy => h y (List.mem_cons_of_mem _ hy)]; rfl
theorem numOk_more {v : PyData} (h : NumOk v) : lens v = true ∧ tidy v = true ∧ v.depth ≤ 1 ∧ asT v = v := by
  rcases h with ⟨i, rfl, _⟩ | ⟨t, b, rfl, hr, _⟩
  · exact ⟨rfl, rfl, by simp [PyData.depth], rfl⟩
  · exact ⟨rfl, rfl, by simp [PyData.depth, PyData.depthAll], rfl⟩
end G

/-! # M7: bounds gathered; a parse there is where brackets are few -/
namespace G
open PySem PySem.Spec PyProof.Rows L2
theorem asTs_same : ∀ {ds : List PyData}, (∀ d ∈ ds, asT d = d) → asTs ds = ds
  | [], _ => rfl
  | x :: xs, h => by rw [asTs, h x (List.mem_cons_self ..), asTs_same fun y hy => h y (List.mem_cons_of_mem _ hy)]
theorem dval_more : ∀ (n : Nat) {d : PyData}, DVal n d → lens d = true ∧ tidy d = true ∧ d.depth ≤ n + 1 ∧ asT d = d
  | 0, d, h => by
    obtain ⟨a, b, c, e⟩ := numOk_more h
    exact ⟨a, b, c, e⟩
  | n + 1, d, h => by
    rcases h with h | ⟨ds, rfl, hl, h⟩
    · obtain ⟨a, b, c, e⟩ := numOk_more h
      exact ⟨a, b, by omega, e⟩
    · have ih := fun x hx => dval_more n (h x hx)
      refine ⟨?_, tidyAll_of fun x hx => (ih x hx).2.1, ?_, ?_⟩
      · rw [lens, decide_eq_true (by omega), lensAll_of fun x hx => (ih x hx).1]
        rfl
      · rw [depth_tuple]
        exact Nat.succ_le_succ (depth_mem fun x hx => (ih x hx).2.2.1)
      · rw [asT, asTs_same fun x hx => (ih x hx).2.2.2]
theorem glu_len : ∀ ts : List Str, (∀ t ∈ ts, t.length ≤ 40) → (gluL ts).length ≤ ts.length * 41
  | [], _ => Nat.zero_le _
  | t :: ts, h => by
    have h1 := h t (List.mem_cons_self ..)
    have ih := glu_len ts fun x hx => h x (List.mem_cons_of_mem _ hx)
    have h2 : (tl t).length ≤ 40 := by rw [TL.len_tl] at h1; exact h1
    have h3 : (if t = "," ∧ ts.head? ≠ some (")" : Str) then [32] else ([] : List Nat)).length ≤ 1 := by split <;> simp
    rw [gluL, List.length_append, List.length_append, List.length_cons, Nat.succ_mul]
    omega
theorem no_trail {ts : List Str} (h : TokOk ts) : noTrail ts := fun i hi => by
  obtain ⟨hlt, e⟩ := List.getElem?_eq_some_iff.mp hi
  by_cases h1 : i + 1 < ts.length
  · exact ⟨_, List.getElem?_eq_getElem h1⟩
  · have : ts.getLast? = some "," := by
      rw [List.getLast?_eq_getElem?, show ts.length - 1 = i by omega]
      exact hi
    exact absurd rfl (h.last _ this)
/-- the tokens of the law's text -/
theorem toks_text {n : Nat} {d : PyData} (h : DVal n d) : toks (mkS (gluL (tokD d))) = tokD d := by
  have ok := tok_ok n h
  unfold toks
  rw [tl_mkS, tok_glu _ (fun t ht => (ok.vt t ht).good) (nf_nm ok.vt ok.nf), List.map_map]
  conv => rhs; rw [← List.map_id (tokD d)]
  exact List.map_congr_left fun x _ => mkS_tl x
theorem joinG_joinL (S : List Nat) : ∀ ts : List (List Nat), joinG S ts = TL.joinL S ts
  | [] => rfl
  | [_] => rfl
  | t :: u :: r => by
    show t ++ S ++ joinG S (u :: r) = t ++ (S ++ TL.joinL S (u :: r))
    rw [joinG_joinL S (u :: r), List.append_assoc]
/-- .. of tokens joined by one space -/
theorem toks_join1 {ts : List Str} (h : ∀ t ∈ ts, GoodT (tl t)) : toks (Txt.join " " ts) = ts := by
  unfold toks
  rw [TL.join_eq, show tl (Str.join " " ts) = TL.joinL (tl (" " : Str)) (ts.map tl) from TL.tl_join _ _, show tl (" " : Str) = [32] by decide +kernel, ← joinG_joinL]
  have e := tok_join 0 [] tokL_nil (.inl rfl) (ts.map tl) fun t ht => by
    obtain ⟨x, hx, rfl⟩ := List.mem_map.mp ht
    exact h x hx
  rw [List.append_nil] at e
  rw [show joinG [32] (ts.map tl) = joinG (List.replicate (0 + 1) 32) (ts.map tl) from rfl, e, List.map_map]
  conv => rhs; rw [← List.map_id ts]
  exact List.map_congr_left fun x _ => mkS_tl x
/-- .. wide apart, with a space ahead and one behind -/
theorem toks_join2 {ts : List Str} (h : ∀ t ∈ ts, GoodT (tl t)) : toks ((" " : Str) ++ Txt.join "  " ts ++ " ") = ts := by
  unfold toks
  rw [tl_cat, tl_cat, TL.join_eq, show tl (Str.join "  " ts) = TL.joinL (tl ("  " : Str)) (ts.map tl) from TL.tl_join _ _, show tl (" " : Str) = [32] by decide +kernel, show tl ("  " : Str) = [32, 32] by decide +kernel, ← joinG_joinL]
  have e := tok_join 1 [32] (by rw [tok_sp, tokL_nil]) (.inr ⟨[], rfl⟩) (ts.map tl) fun t ht => by
    obtain ⟨x, hx, rfl⟩ := List.mem_map.mp ht
    exact h x hx
  rw [List.append_assoc, List.singleton_append, tok_sp]
  rw [show joinG [32, 32] (ts.map tl) = joinG (List.replicate (1 + 1) 32) (ts.map tl) from rfl, e, List.map_map]
  conv => rhs; rw [← List.map_id ts]
  exact List.map_congr_left fun x _ => mkS_tl x
/-! ### a parse there is -/
def opens (ts : List Str) : Nat := (ts.filter fun t => decide (t = ("(" : Str))).length
theorem opens_drop (ts : List Str) (i : Nat) : opens (ts.drop (i + 1)) ≤ opens (ts.drop i) ∧ (ts[i]? = some ("(" : Str) → opens (ts.drop (i + 1)) + 1 = opens (ts.drop i)) := by
  by_cases h : i < ts.length
  · rw [List.drop_eq_getElem_cons h]
    unfold opens
    rw [List.filter_cons]
    refine ⟨by split <;> simp, fun e => ?_⟩
    rw [List.getElem?_eq_getElem h] at e
    rw [if_pos (by simpa using Option.some.inj e), List.length_cons]
  · rw [List.drop_eq_nil_of_le (by omega), List.drop_eq_nil_of_le (by omega)]
    exact ⟨Nat.le_refl _, fun e => by rw [List.getElem?_eq_none (by omega)] at e; cases e⟩
theorem opens_le (ts : List Str) {i j : Nat} (h : i ≤ j) : opens (ts.drop j) ≤ opens (ts.drop i) := by
  induction j with
  | zero =>
    obtain rfl : i = 0 := by omega
    exact Nat.le_refl _
  | succ j ih =>
    by_cases e : i = j + 1
    · rw [e]; exact Nat.le_refl _
    · exact Nat.le_trans (opens_drop ts j).1 (ih (by omega))
theorem pNum_pos {ts : List Str} {i j : Nat} {n : Int} (h : pNum ts i = .ok (n, j)) : j = i + 1 ∧ j ≤ ts.length := by
  unfold pNum at h
  split at h
  · rename_i hn
    have e := (Prod.mk.inj (Except.ok.inj h)).2
    refine ⟨e.symm, ?_⟩
    by_cases hi : i < ts.length
    · omega
    · have e2 : tok ts i = "" := by unfold tok; rw [List.getElem?_eq_none (by omega)]; rfl
      rw [e2, str_nil.mp rfl] at hn
      cases hn
  · cases h
theorem pRat_pos {ts : List Str} {i j : Nat} {v : PyData} (h : pRat ts i = .ok (v, j)) : i < j ∧ j ≤ ts.length := by
  unfold pRat at h
  split at h
  · cases h
  · rename_i n j' h1
    have e := pNum_pos h1
    have hi : i ≤ (if ts[i]? = some ("-" : Str) then i + 1 else i) := by split <;> omega
    split at h
    · cases h
    · split at h
      · split at h
        · cases h
        · rename_i m k h2
          have e2 := pNum_pos h2
          split at h
          · have := (Prod.mk.inj (Except.ok.inj h)).2
            omega
          · cases h
      · have := (Prod.mk.inj (Except.ok.inj h)).2
        omega
theorem more_is {ts : List Str} {f : Nat → Option Res} {b : Nat} (hf : ∀ k, b ≤ k → ∃ r, f k = some r ∧ ∀ v j, r = .ok (v, j) → k < j ∧ j ≤ ts.length) : ∀ (m : Nat) (vs : List PyData) (k : Nat), b ≤ k → k ≤ ts.length → ts.length < m + k → ∃ r, pMore f ts m vs k = some r ∧ ∀ v j, r = .ok (v, j) → k < j ∧ j ≤ ts.length
  | 0, vs, k, hb, hk, hm => by omega
  | m + 1, vs, k, hb, hk, hm => by
    unfold pMore
    split
    · obtain ⟨r, h1, h2⟩ := hf (k + 1) (by omega)
      rw [h1]
      cases r with
      | error p => exact ⟨_, rfl, fun v j e => by cases e⟩
      | ok vj =>
        obtain ⟨v, j⟩ := vj
        have hj := h2 v j rfl
        obtain ⟨r, h3, h4⟩ := more_is hf m (vs ++ [v]) j (by omega) hj.2 (by omega)
        exact ⟨r, h3, fun v j e => by have := h4 v j e; omega⟩
    · split
      · rename_i hc
        have hk2 := (List.getElem?_eq_some_iff.mp hc).1
        exact ⟨_, rfl, fun v j e => by have := (Prod.mk.inj (Except.ok.inj e)).2; omega⟩
      · exact ⟨_, rfl, fun v j e => by cases e⟩
theorem val_is {ts : List Str} : ∀ (n i : Nat), opens (ts.drop i) < n → ∃ r, pVal ts n i = some r ∧ ∀ v j, r = .ok (v, j) → i < j ∧ j ≤ ts.length
  | 0, i, h => absurd h (Nat.not_lt_zero _)
  | n + 1, i, h => by
    unfold pVal
    split
    · rename_i hp
      have hi := (List.getElem?_eq_some_iff.mp hp).1
      have ho := (opens_drop ts i).2 hp
      have rec_ : ∀ k, i + 1 ≤ k → ∃ r, pVal ts n k = some r ∧ ∀ v j, r = .ok (v, j) → k < j ∧ j ≤ ts.length := fun k hk => val_is n k (by have := opens_le ts hk; omega)
      split
      · rename_i hq
        have hq2 := (List.getElem?_eq_some_iff.mp hq).1
        exact ⟨_, rfl, fun v j e => by have := (Prod.mk.inj (Except.ok.inj e)).2; omega⟩
      · obtain ⟨r, h1, h2⟩ := rec_ (i + 1) (Nat.le_refl _)
        rw [h1]
        cases r with
        | error p => exact ⟨_, rfl, fun v j e => by cases e⟩
        | ok vj =>
          obtain ⟨v, j⟩ := vj
          have hj := h2 v j rfl
          simp only
          split
          · rename_i hc
            split
            · rename_i hq
              have hq2 := (List.getElem?_eq_some_iff.mp hq).1
              exact ⟨_, rfl, fun v' j' e => by have := (Prod.mk.inj (Except.ok.inj e)).2; omega⟩
            · obtain ⟨r, h3, h4⟩ := rec_ (j + 1) (by omega)
              rw [h3]
              cases r with
              | error p => exact ⟨_, rfl, fun v j e => by cases e⟩
              | ok uk =>
                obtain ⟨u, k⟩ := uk
                have hk := h4 u k rfl
                obtain ⟨r, h5, h6⟩ := more_is rec_ ts.length [v, u] k (by omega) hk.2 (by omega)
                exact ⟨r, h5, fun v j e => by have := h6 v j e; omega⟩
          · exact ⟨_, rfl, fun v j e => by cases e⟩
    · refine ⟨_, rfl, fun v j e => pRat_pos e⟩
end G

/-! # M8: token lists that are changed -/
namespace G
open PySem PySem.Spec PyProof.Rows L2
def TokW (t : Str) : Prop := GoodT (tl t) ∧ t.length ≤ 401 ∧ PyData.strOk t = true
theorem strOk_of {t : Str} (h : ∀ c ∈ tl t, c < 1114112) : PyData.strOk t = true := by
  unfold PyData.strOk
  rw [Array.all_eq_true']
  intro c hc
  exact decide_eq_true (h c (Array.mem_toList_iff.mpr hc))
theorem VT1.w {t : Str} (h : VT1 t) : TokW t := by
  refine ⟨h.good, Nat.le_trans h.len (by decide), ?_⟩
  rcases h with h | ⟨n, rfl, hn⟩
  · rcases h with rfl | rfl | rfl | rfl | rfl <;> decide +kernel
  · refine strOk_of fun c hc => ?_
    rw [tl_numS] at hc
    have := TL.numL_digits n c hc
    omega
structure WT1 (ts : List Str) : Prop where
  w : ∀ t ∈ ts, TokW t
  few : ts.length ≤ 1000
  op : opens ts ≤ 14
  sm : (ts.map (·.length)).sum + ts.length ≤ 30000
theorem sum40 : ∀ {l : List Str}, (∀ t ∈ l, VT1 t) → (l.map (·.length)).sum ≤ l.length * 40
  | [], _ => Nat.zero_le _
  | x :: xs, h => by
    have h1 := (h x (List.mem_cons_self ..)).len
    have h2 := sum40 (l := xs) fun y hy => h y (List.mem_cons_of_mem _ hy)
    simp only [List.map_cons, List.sum_cons, List.length_cons, Nat.succ_mul]
    omega
theorem opens_app (a b : List Str) : opens (a ++ b) = opens a + opens b := by
  unfold opens
  rw [List.filter_append, List.length_append]
theorem opens_one (t : Str) : opens [t] ≤ 1 := by
  unfold opens
  exact List.length_filter_le _ _
theorem opens_cut (ts : List Str) (i : Nat) : opens (ts.take i) + opens (ts.drop i) = opens ts := by rw [← opens_app, List.take_append_drop]
def opB : Nat → Nat
  | 0 => 0
  | n + 1 => 1 + 3 * opB n
theorem opens_num {ts : List Str} (h : ∀ t ∈ ts, t ≠ "(") : opens ts = 0 := by
  unfold opens
  rw [List.length_eq_zero_iff, List.filter_eq_nil_iff]
  intro t ht
  simpa using h t ht
theorem dval_opens : ∀ (n : Nat) {d : PyData}, DVal n d → opens (tokD d) ≤ opB n := fun n => by
  have ratio : ∀ {m : Nat} {d : PyData}, DVal m d → isRatio d = true → opens (tokD d) = 0 := fun {m d} h hr => by
    have mm : ∀ t : Int, ∀ x ∈ minusT t, x ≠ ("(" : Str) := fun t x hx => by
      rw [minusT_vt t x hx]
      decide +kernel
    rcases dval_ratio h hr with ⟨i, rfl, hi⟩ | ⟨t, b, rfl, hb, hg, ht, hb2⟩
    · rw [tokD]
      refine opens_num fun x hx => ?_
      rcases List.mem_append.mp hx with hx | hx
      · exact mm i x hx
      · rw [List.mem_singleton.mp hx]; exact num_not_sg _ (.inl rfl)
    · rw [tokD, if_pos hr, ratTok]
      refine opens_num fun x hx => ?_
      rcases List.mem_append.mp hx with hx | hx
      · exact mm t x hx
      · rcases List.mem_cons.mp hx with rfl | hx
        · exact num_not_sg _ (.inl rfl)
        · rcases List.mem_cons.mp hx with rfl | hx
          · decide +kernel
          · rw [List.mem_singleton.mp hx, numS_int b (by omega)]; exact num_not_sg _ (.inl rfl)
  have numOkR : ∀ {d : PyData}, NumOk d → isRatio d = true := fun {d} h => by
    rcases h with ⟨i, rfl, _⟩ | ⟨t, b, rfl, hr, _⟩
    · rfl
    · exact hr
  have items : ∀ (m : Nat) (ds : List PyData) (k : Nat), (∀ d ∈ ds, opens (tokD d) ≤ m) → opens (tokDs ds k) ≤ ds.length * m := fun m ds => by
    induction ds with
    | nil => exact fun k _ => Nat.zero_le _
    | cons d ds ih =>
      intro k h
      rw [tokDs, opens_app, opens_app, List.length_cons, Nat.succ_mul]
      have h1 := h d (List.mem_cons_self ..)
      have h2 := ih (k + 1) fun x hx => h x (List.mem_cons_of_mem _ hx)
      have h3 : opens (if 0 < k then [("," : Str)] else []) = 0 := by split <;> decide +kernel
      omega
  induction n with
  | zero => exact fun {d} h => Nat.le_of_eq (ratio (m := 0) h (numOkR h))
  | succ n ih =>
    intro d h
    by_cases hr : isRatio d = true
    · rw [ratio h hr]; exact Nat.zero_le _
    · rcases h with h | ⟨ds, rfl, hl, h⟩
      · exact absurd (numOkR h) hr
      · rw [tokD, if_neg hr, opens_app, opens_app, opens_app]
        have h1 := items (opB n) ds 0 fun x hx => ih (h x hx)
        have h2 : opens (if ds.length = 1 then [("," : Str)] else []) = 0 := by split <;> decide +kernel
        have h3 : opens [(")" : Str)] = 0 := by decide +kernel
        have h4 := opens_one "("
        have h5 : ds.length * opB n ≤ 3 * opB n := Nat.mul_le_mul_right _ hl
        simp only [opB]
        omega
/-- the changes that are made -/
theorem wt_ins {ts : List Str} {o : Str} (hv : ∀ t ∈ ts, VT1 t) (hl : ts.length ≤ 200) (ho : opens ts ≤ 13) (how : TokW o) (i j : Nat) (hij : i ≤ j) : WT1 (ts.take i ++ [o] ++ ts.drop j) := by
  have v1 : ∀ t ∈ ts.take i, VT1 t := fun t ht => hv t (List.mem_of_mem_take ht)
  have v2 : ∀ t ∈ ts.drop j, VT1 t := fun t ht => hv t (List.mem_of_mem_drop ht)
  have s1 := sum40 v1
  have s2 := sum40 v2
  have l1 : (ts.take i).length ≤ 200 := by rw [List.length_take]; omega
  have l2 : (ts.drop j).length ≤ 200 := by rw [List.length_drop]; omega
  have lo := how.2.1
  refine ⟨fun t ht => ?_, ?_, ?_, ?_⟩
  rotate_left 3
  · simp only [List.map_append, List.sum_append, List.map_cons, List.map_nil, List.sum_cons, List.sum_nil, List.length_append, List.length_cons, List.length_nil]
    omega
  · rcases List.mem_append.mp ht with ht | ht
    · rcases List.mem_append.mp ht with ht | ht
      · exact (hv t (List.mem_of_mem_take ht)).w
      · rw [List.mem_singleton.mp ht]; exact how
    · exact (hv t (List.mem_of_mem_drop ht)).w
  · simp only [List.length_append, List.length_take, List.length_drop, List.length_cons, List.length_nil]
    omega
  · rw [opens_app, opens_app]
    have h1 := opens_cut ts i
    have h2 := opens_le ts hij
    have h3 := opens_one o
    omega
theorem wt_del {ts : List Str} (hv : ∀ t ∈ ts, VT1 t) (hl : ts.length ≤ 200) (ho : opens ts ≤ 13) (i j : Nat) (hij : i ≤ j) : WT1 (ts.take i ++ ts.drop j) := by
  have v1 : ∀ t ∈ ts.take i, VT1 t := fun t ht => hv t (List.mem_of_mem_take ht)
  have v2 : ∀ t ∈ ts.drop j, VT1 t := fun t ht => hv t (List.mem_of_mem_drop ht)
  have s1 := sum40 v1
  have s2 := sum40 v2
  have l1 : (ts.take i).length ≤ 200 := by rw [List.length_take]; omega
  have l2 : (ts.drop j).length ≤ 200 := by rw [List.length_drop]; omega
  refine ⟨fun t ht => ?_, ?_, ?_, ?_⟩
  rotate_left 3
  · simp only [List.map_append, List.sum_append, List.length_append]
    omega
  · rcases List.mem_append.mp ht with ht | ht
    · exact (hv t (List.mem_of_mem_take ht)).w
    · exact (hv t (List.mem_of_mem_drop ht)).w
  · simp only [List.length_append, List.length_take, List.length_drop]
    omega
  · rw [opens_app]
    have h1 := opens_cut ts i
    have h2 := opens_le ts hij
    omega
theorem wt_cut {ts : List Str} (hv : ∀ t ∈ ts, VT1 t) (hl : ts.length ≤ 200) (ho : opens ts ≤ 13) (i : Nat) : WT1 (ts.take i) := by
  have s1 := sum40 (l := ts.take i) fun t ht => hv t (List.mem_of_mem_take ht)
  have l1 : (ts.take i).length ≤ 200 := by rw [List.length_take]; omega
  refine ⟨fun t ht => (hv t (List.mem_of_mem_take ht)).w, by omega, ?_, by omega⟩
  have h1 := opens_cut ts i
  omega
/-- the text of such a list is short -/
theorem join_short {ts : List Str} (h : WT1 ts) : (Txt.join " " ts).length ≤ 40000 := by
  cases ts with
  | nil => decide +kernel
  | cons t r =>
    have e := join_len " " (t :: r) (by simp)
    have h3 : ((" " : Str)).length = 1 := by decide +kernel
    rw [h3, Nat.mul_one] at e
    have := h.sm
    omega
end G

/-! # X9: _law_right -/
namespace G
open PySem PySem.Spec PyProof.Rows L2
/-- all but the pen and the tables is as it was -/
def ExT (a : Addr) (H H' : Hp) : Prop := ∀ b o, b ≠ a → (∀ ps, o ≠ .tbl ps) → H b = some o → H' b = some o
theorem ExT.refl (a : Addr) (H : Hp) : ExT a H H := fun _ _ _ _ h => h
theorem ExT.trans {a : Addr} {H H1 H2 : Hp} (x : ExT a H H1) (y : ExT a H1 H2) : ExT a H H2 := fun b o n t h => y b o n t (x b o n t h)
theorem ExT.ex {a : Addr} {H H' : Hp} (e : Ex H H') : ExT a H H' := fun b o _ _ h => e b o h
theorem ExT.pen {a : Addr} {H H' : Hp} (e : ExB a H H') : ExT a H H' := fun b o n _ h => e b o n h
theorem ExT.lam {a : Addr} {H H' : Hp} (e : LamX.ExtN H H') : ExT a H H' := fun b o _ t h => e b o h t
theorem tabs_pen {a lc : Addr} {T : List (Addr × Str)} {H H' : Hp} (e : ExB a H H') (P : Pen a lc H) (h : LamX.Tabs T H) : LamX.Tabs T H' := fun p hp => by
  obtain ⟨ps, h1, h2, h3⟩ := h p hp
  obtain ⟨i, dg, ct, fo, cells, I⟩ := P
  refine ⟨ps, e _ _ (fun q => by rw [q, I.ob] at h1; cases h1) h1, h2, fun pos cv hc => ?_⟩
  obtain ⟨c, ec, hc2⟩ := h3 pos cv hc
  exact ⟨c, ec, e _ _ (fun q => by rw [q, I.ob] at hc2; cases hc2) hc2⟩
theorem pen_lam {a lc : Addr} {H H' : Hp} (e : LamX.ExtN H H') (P : Pen a lc H) : Pen a lc H' := by
  obtain ⟨i, dg, ct, fo, cells, I⟩ := P
  exact ⟨i, dg, ct, fo, cells, e _ _ I.ob (fun _ z => by cases z), e _ _ I.li (fun _ z => by cases z), I.at0, I.few⟩
/-- the pen and the tables stand; all else of H0 is as it was -/
structure Wd (a lc : Addr) (T : List (Addr × Str)) (H0 H : Hp) : Prop where
  pen : Pen a lc H
  tab : LamX.Tabs T H
  kp : ExT a H0 H
section
variable {a lc : Addr} {T : List (Addr × Str)} {H0 H H' : Hp} {K : PySem.W.Frag}
theorem Wd.ex (w : Wd a lc T H0 H) (e : Ex H H') : Wd a lc T H0 H' := ⟨w.pen.up e, w.tab.ext e, w.kp.trans (.ex e)⟩
theorem Wd.go (w : Wd a lc T H0 H) (P : Pen a lc H') (e : ExB a H H') : Wd a lc T H0 H' := ⟨P, tabs_pen e w.pen w.tab, w.kp.trans (.pen e)⟩
theorem Wd.lam (w : Wd a lc T H0 H) (e : LamX.ExtN H H') (t : LamX.Tabs T H') : Wd a lc T H0 H' := ⟨pen_lam e w.pen, t, w.kp.trans (.lam e)⟩
theorem ExT.toI (e : ExT a H H') (P : Pen a lc H) : ExI H H' := by
  obtain ⟨i, dg, ct, fo, cells, I⟩ := P
  exact fun b o hb _ n2 _ n4 => e b o (fun q => by rw [q, I.ob] at hb; exact n2 _ (Option.some.inj hb).symm) n4 hb
theorem ExT.lst {l : Addr} {xs : List V} (e : ExT a H H') (P : Pen a lc H) (hl : H l = some (.lst xs)) : H' l = some (.lst xs) := by
  obtain ⟨i, dg, ct, fo, cells, I⟩ := P
  exact e l _ (fun q => by rw [q, I.ob] at hl; cases hl) (fun _ z => by cases z) hl
end
def spRight (T : List (Addr × Str)) : Sp := fun vs H Q _ => ∃ a lc : Addr, vs = [.ref a] ∧ Pen a lc H ∧ LamX.Tabs T H ∧ ∀ H', Wd a lc T H H' → Q (.bl true) H'
section
variable {g : Gd} {ca : Str → Addr}
abbrev nRight : List Str := ["pen", "value", "text", "tokens", "lap", "at", "some", "odd", "place", "good", "due"]
theorem sc_right : FnScope nRight ["pen"] (defScope s__law_right) := ⟨rfl, rfl, rfl, by decide +kernel, rfl, by decide +kernel, by decide +kernel⟩
/-- what _law_right calls -/
structure RightF (g : Gd) (ca : Str → Addr) (n : Nat) : Prop where
  draw : FDraw g
  pick : Fd g "_law_pick" ["pen", "some"] 2 spPick
  drawn : Fd g "_law_drawn_value" ["pen", "deep"] 7 (spDrawn g.K 3)
  text : Fd g "_law_text_of" ["value"] 8 (spLText g.K 3)
  toks : Fd g "_law_tokens_of" ["value"] 7 (spTok g.K 3)
  is_ : Fd g "_law_is" ["told", "due"] 21 (spIs g.K 20)
  vt : Fd g "value_text" ["value"] (n + 4) (spValueText g.K (ca "BadRow") n)
  ot : Fd g "value_of_text" ["text"] (n + 8) (spOfText g.K (ca "BadText") n)
  read : Fd g "_law_read" ["tokens", "at"] (n + 2) (spRead g.K n)
end
end G

/-! # X9b: more for _law_right: the odd tokens, cuts -/
namespace G
open PySem PySem.Spec PyProof.Rows L2
theorem op_mulS {X : Cx} : OpR X (binaryOp .Mult) (fun x y H Q => ∃ z n, x = .str z ∧ y = .int n ∧ MulOk z n ∧ Q (.str (Txt.mul z n)) H) := by
  intro pins s σ H x y v u Q I rx ry h
  obtain ⟨z, n, rfl, rfl, hok, q⟩ := h
  obtain ⟨t1, rfl⟩ := rx
  obtain ⟨t2, rfl⟩ := ry
  exact PySem.SB.mul hok fun t' k => ⟨.str _, H, I.kept (t' := k) (fun _ _ z => z), ⟨t', rfl⟩, q⟩
theorem vd_mulS {X : Cx} {a b : Expr} {σ : St} {H : Hp} {pos : Pos} {z : Str} {n : Int} (ha : VD X a σ H (.str z)) (hb : VD X b σ H (.int n)) (hok : MulOk z n) : VD X (.BinOp a .Mult b pos) σ H (.str (Txt.mul z n)) :=
  vd_op op_mulS ha hb fun v u H2 Q dv du k => ⟨z, n, dv.str_v, du.int_v, hok, k _ H2 (Evl.Ex.refl H2) (.str _)⟩
def odds : List Str := ["(", ")", ",", "-", "/", "0", "1", "2", "06", "x", "+", Txt.mul "7" 401]
def goodB (l : List Nat) : Bool := match l with
  | [] => false
  | c :: cs => decide (c ≠ 32) && ((isFig c && cs.all isFig) || (!isFig c && (isLet c && cs.all isLet)) || (!isFig c && (!isLet c && cs.isEmpty)))
theorem good_of {l : List Nat} (h : goodB l = true) : GoodT l := by
  cases l with
  | nil => cases h
  | cons c cs =>
    unfold goodB at h
    simp only [Bool.and_eq_true, Bool.or_eq_true, decide_eq_true_eq, Bool.not_eq_true', List.isEmpty_iff] at h
    obtain ⟨h1, (h2 | h2) | h2⟩ := h
    · exact ⟨c, cs, rfl, h1, .inl h2⟩
    · exact ⟨c, cs, rfl, h1, .inr (.inl h2)⟩
    · exact ⟨c, cs, rfl, h1, .inr (.inr h2)⟩
theorem odd_w : ∀ o ∈ odds, TokW o := by
  have h : (odds.all fun o => goodB (tl o) && (decide (o.length ≤ 401) && PyData.strOk o)) = true := by decide +kernel
  intro o ho
  have := List.all_eq_true.mp h o ho
  simp only [Bool.and_eq_true, decide_eq_true_eq] at this
  exact ⟨good_of this.1, this.2.1, this.2.2⟩
theorem cut_take (ts : List Str) (i : Nat) : cutD (strD ts) none (some (i : Int)) = strD (ts.take i) := by
  unfold cutD strD
  rw [HT.sIx_nat, show HT.sIx (ts.map PyData.str).length 0 none = 0 from rfl, List.drop_zero, Nat.sub_zero, List.map_take]
  rw [List.take_eq_take_iff]
  omega
theorem cut_drop (ts : List Str) (i : Nat) : cutD (strD ts) (some (i : Int)) none = strD (ts.drop i) := by
  unfold cutD strD
  rw [HT.sIx_nat, show HT.sIx (ts.map PyData.str).length (ts.map PyData.str).length none = (ts.map PyData.str).length from rfl, List.map_drop, List.take_of_length_le (by rw [List.length_drop]; exact Nat.le_refl _)]
  by_cases h : i ≤ (ts.map PyData.str).length
  · rw [Nat.min_eq_left h]
  · rw [Nat.min_eq_right (by omega), List.drop_length, List.drop_eq_nil_of_le (by omega)]
theorem mulOk7 : MulOk "7" 401 := by
  unfold MulOk
  refine ⟨by decide, fun _ _ => by decide +kernel, fun _ _ => by decide +kernel⟩
end G

/-! # X9c: the twelve odd tokens as a list -/
namespace G
open PySem PySem.Spec PyProof.Rows L2
def big7 : Str := Txt.mul "7" 401
def oddH : List Str := ["(", ")", ",", "-", "/", "0", "1", "2", "06", "x", "+"]
theorem odds_eq : odds = oddH ++ [big7] := rfl
theorem strD_odds : strD odds = [.str "(", .str ")", .str ",", .str "-", .str "/", .str "0", .str "1", .str "2", .str "06", .str "x", .str "+", .str big7] := rfl
theorem odds_len : odds.length = 12 := rfl
theorem vd_big7 {X : Cx} {σ : St} {H : Hp} {p1 p2 pos : Pos} {j1 j2} : VD X (.BinOp (.Constant (.str "7") j1 p1) .Mult (.Constant (.int 401) j2 p2) pos) σ H (.str big7) := vd_mulS vd_str vd_int mulOk7
end G

/-! # X9d: displays: what their items are, item by item -/
namespace G
open PySem PySem.Spec PyProof.Rows L2
theorem se_const {c j p} {es : List Expr} {v : Env} : starEach (.Constant c j p :: es) v = (false, eval (.Constant c j p) v) :: starEach es v := rfl
theorem se_bin {a o b p} {es : List Expr} {v : Env} : starEach (.BinOp a o b p :: es) v = (false, eval (.BinOp a o b p) v) :: starEach es v := rfl
theorem se_sub {a b p} {es : List Expr} {v : Env} : starEach (.Subscript a b p :: es) v = (false, eval (.Subscript a b p) v) :: starEach es v := rfl
theorem se_tup {a b p} {es : List Expr} {v : Env} : starEach (.Tuple a b p :: es) v = (false, eval (.Tuple a b p) v) :: starEach es v := rfl
theorem se_list {a p} {es : List Expr} {v : Env} : starEach (.List a p :: es) v = (false, eval (.List a p) v) :: starEach es v := rfl
theorem se_dict {a b p} {es : List Expr} {v : Env} : starEach (.Dict a b p :: es) v = (false, eval (.Dict a b p) v) :: starEach es v := rfl
theorem se_call {a b d p} {es : List Expr} {v : Env} : starEach (.Call a b d p :: es) v = (false, eval (.Call a b d p) v) :: starEach es v := rfl
theorem se_un {a b p} {es : List Expr} {v : Env} : starEach (.UnaryOp a b p :: es) v = (false, eval (.UnaryOp a b p) v) :: starEach es v := rfl
section
variable {X : Cx} {σ : St} {H : Hp} {es : List Expr} {ds : List PyData} {s : Str} {j : Nat} {p : Pos}
theorem va_str (k : VA X es σ H ds) : VA X (.Constant (.str s) j p :: es) σ H (.str s :: ds) := va_cons vd_str k se_const
theorem va_int {i : Int} (k : VA X es σ H ds) : VA X (.Constant (.int i) j p :: es) σ H (.int i :: ds) := va_cons vd_int k se_const
theorem va_non (k : VA X es σ H ds) : VA X (.Constant .none j p :: es) σ H (.none :: ds) := va_cons vd_non k se_const
theorem va_bl {b : Bool} (k : VA X es σ H ds) : VA X (.Constant (.bool b) j p :: es) σ H (.bool b :: ds) := va_cons vd_bl k se_const
theorem va_bin {a b : Expr} {o : Operator} {d : PyData} (h : VD X (.BinOp a o b p) σ H d) (k : VA X es σ H ds) : VA X (.BinOp a o b p :: es) σ H (d :: ds) := va_cons h k se_bin
theorem va_tup {a : List Expr} {b} {d : PyData} (h : VD X (.Tuple a b p) σ H d) (k : VA X es σ H ds) : VA X (.Tuple a b p :: es) σ H (d :: ds) := va_cons h k se_tup
theorem va_lst {a : List Expr} {d : PyData} (h : VD X (.List a p) σ H d) (k : VA X es σ H ds) : VA X (.List a p :: es) σ H (d :: ds) := va_cons h k se_list
theorem va_cll {a : Expr} {b : List Expr} {c} {d : PyData} (h : VD X (.Call a b c p) σ H d) (k : VA X es σ H ds) : VA X (.Call a b c p :: es) σ H (d :: ds) := va_cons h k se_call
end
end G

/-! # X10a: one turn of _law_right's loop -/
namespace G
open PySem PySem.Spec PyProof.Rows L2
def loopR : List Stmt := match (defBody s__law_right).getD 5 (.Pass ⟨0, 0, 0, 0⟩) with
  | Stmt.For _ _ b _ _ => b.drop 1
  | _ => []
abbrev cxR (g : Gd) (f c : Addr) (A : Around) (outer : List Env) (s : Shared) (H : Hp) (E : XK) : Cx := cxOf (CXg g) g.P g.w g.K g.mg g.base nRight "_law_right" (defScope s__law_right) f (.ref c) A outer s H E
theorem pick4 {K : PySem.W.Frag} {H : Hp} {v1 v2 v3 v4 x : V} {t1 t2 t3 t4 : List Str} (h1 : DpL K H v1 (strD t1)) (h2 : DpL K H v2 (strD t2)) (h3 : DpL K H v3 (strD t3)) (h4 : DpL K H v4 (strD t4)) (w1 : WT1 t1) (w2 : WT1 t2) (w3 : WT1 t3) (w4 : WT1 t4) {j : Nat} (hj : [v1, v2, v3, v4][j]? = some x) :
    ∃ ts l, WT1 ts ∧ x = .ref l ∧ H l = some (.lst (ts.map V.str)) := by
  have go : ∀ {v : V} {t : List Str}, DpL K H v (strD t) → WT1 t → v = x → ∃ ts l, WT1 ts ∧ x = .ref l ∧ H l = some (.lst (ts.map V.str)) := fun {v t} h w e => by
    obtain ⟨l, xs, rfl, hl, dx⟩ := h
    obtain rfl := dx.strD_v
    exact ⟨t, l, w, e.symm, hl⟩
  match j, hj with
  | 0, hj => exact go h1 w1 (Option.some.inj hj)
  | 1, hj => exact go h2 w2 (Option.some.inj hj)
  | 2, hj => exact go h3 w3 (Option.some.inj hj)
  | 3, hj => exact go h4 w4 (Option.some.inj hj)
  | n + 4, hj => cases hj
/-- what is due of a text with these tokens -/
def dueB (r : Res) (ts : List Str) : Bool := okR r && decide ((plc r : Int) = ts.length)
def dueD (r : Res) (ts : List Str) : PyData := if dueB r ts = true then .none else .tuple [.str "text", .int 1, .int ((plc r : Int) + 1)]
theorem shaped_sii {z : Str} {i j : Int} (h : PyData.strOk z = true) : SeqAt.shaped (.tuple [.str z, .int i, .int j]) = true := by
  unfold SeqAt.shaped
  simp [PyData.canLay0, PyData.canLayAll0, PyData.depth, PyData.depthAll, h]
theorem shaped_due (r : Res) (ts : List Str) : SeqAt.shaped (dueD r ts) = true := by
  unfold dueD
  split
  · decide +kernel
  · exact shaped_sii (by decide +kernel)
/-- what is told against what is due, where both are the same -/
theorem ne_same {X : Cx} {e : Expr} {σ : St} {H : Hp} {w : V} {d : PyData} {Qb : Bool → Hp → Prop} (hw : Dp X.K H w d) (he : VD X e σ H d) (hs : SeqAt.shaped d = true) (k : ∀ H', Ex H H' → Qb false H') : WE X e σ H fun u H2 => rNeD X.K w u H2 fun z H3 => ∃ b, z = .bl b ∧ Qb b H3 :=
  he.use fun u H2 e2 du => ⟨d, d, hw.up e2, du, hs, hs, _, rfl, by rw [SeqAt.eqv_refl d (SeqAt.canLay_of_shaped hs)]; exact k H2 e2⟩
section
variable {g : Gd} {ca : Str → Addr} {c P : Addr} {T : List (Addr × Str)} {f : Addr} {A : Around} {outer : List Env} {s : Shared} {H : Hp} {E : XK} {a lc lt : Addr} {v : V} {d : PyData} {z : Str} {D : Ends}
/-- the last statements: what is read, what is due, what is raised -/
theorem lp_end (nm : Nm g.mg) (ex : EXs g.K g.mg ca) (FF : FT g "_law_fault" s__law_fault) (GK : FdE (fun _ => True) g "_law_kinds" ["e"] 2 (spKind g.K ca "BadText" PPt)) (TB : LamX.TabB g.base g.mg c P) (hmT : (P, lamQ "_law_right") ∈ T) (hu : ∀ p ∈ T, p.1 = P → p.2 = lamQ "_law_right") (R : RightF g ca 20)
    (hr : Room 39 (A.deeper (envOfC "_law_right" (defScope s__law_right) s.heap.objs.size f (.ref c)))) {H6 H1 : Hp} {o5 o7 o8 o9 o10 : Option V} {t : Int} {ts : List Str} {ls : Addr} (W : Wd a lc T H6 H1) (w : WT1 ts) (hls : H1 ls = some (.lst (ts.map V.str)))
    (k : ∀ o5 o6 o7 o8 o9 o10 H', Wd a lc T H6 H' → D.nx [some (.ref a), some v, some (.str z), some (.ref lt), some (.int t), o5, o6, o7, o8, o9, o10] H') :
    WS (cxR g f c A outer s H E) (loopR.drop 2) D [some (.ref a), some v, some (.str z), some (.ref lt), some (.int t), o5, some (.ref ls), o7, o8, o9, o10] H1 := by
  obtain ⟨r, hp, hj⟩ := val_is (ts := ts) 20 0 (by have := w.op; rw [List.drop_zero]; omega)
  have tD : ∀ {H'}, H' ls = some (.lst (ts.map V.str)) → Dp g.K H' (.ref ls) (.list (strD ts)) := fun h => DpL.dp ⟨ls, _, rfl, h, .of_strD _⟩
  refine ws_unp2 8 9 rfl sc_right.nd (we_call0 R.read (hr.mono (by omega)) (wa_cons (we_var 6 rfl (wa_cons (vd_int.use fun w2 H2 e2 d2 => wa_nil ⟨ls, ts, 0, r, by rw [d2.int_v]; rfl, e2 _ _ hls, Nat.le_trans w.few (by decide), fun t ht => ⟨Nat.le_trans (w.w t ht).2.1 (by decide), (w.w t ht).2.2⟩, hp, fun w3 H3 e3 d3 => ?_⟩)))))
  obtain ⟨l3, u3, v3, ew, s3, du, dv⟩ := tup2_v d3
  obtain rfl := du.int_v
  obtain rfl := dv.bl_v
  refine ⟨l3, _, _, ew, s3, ?_⟩
  have W3 := W.ex (Evl.Ex.trans e2 e3)
  have hls3 := e3 _ _ (e2 _ _ hls)
  refine ws_setD (d := dueD r ts) 10 sc_right.nd (vd_if (t := dueB r ts) (VW.vt (vw_and (vt_val (vd_var 9 rfl (.bl (okR r)))) fun _ => vw_and1 (vt_eq (vd_var 8 rfl (.int (plc r : Int))) ((vd_len nm.len (vd_var 6 rfl (tD hls3))).to (by rw [strD, List.length_map])))))
    (fun q => vd_non.to (by unfold dueD; rw [if_pos q])) (fun q => (vd_tup (va_cons vd_str (va_cons vd_int (va1 (vd_add (vd_var 8 rfl (.int (plc r : Int))) vd_int)))) (show 3 ≤ 100000 by decide)).to (by unfold dueD; rw [if_neg (by rw [q]; exact Bool.false_ne_true)]))) fun w4 H4 e4 d4 => ?_
  have W4 := W3.ex e4
  have hls4 := e4 _ _ hls3
  have hun : (cxR g f c A outer s H E).A.units + 64 < cLine := hr.units
  refine ws_ifW (wt_cmp (op_neD hun) (nomark _) (we_fault (φ := fun _ => True) (PP := PPt) (k := 28) FF (by exact nm) (by exact ex) (x := "BadText") (by decide +kernel) (fun d H t ⟨fs, _, _, h, _⟩ => ⟨fs, h⟩) (fun _ _ => trivial) GK TB rfl hmT hu (hr.mono (by omega)) (LamX.lamS_by (sc := defScope s__law_right) (by decide +kernel)) W4.tab fun H5 e5 hT5 E2 Q2 hq he A' outer' s' H0 f' c' hr' => ?_))
  have hls5 := e5 _ _ hls4 (fun _ q => by cases q)
  have D5 : Dp g.K H5 w4 (dueD r ts) := dp_n e5 _ _ d4
  have W5 := W4.lam e5 hT5
  have hw : ∀ q ∈ ts, GoodT (tl q) := fun q hq => (w.w q hq).1
  have hsum : (ts.map (·.length)).sum + ts.length * (" " : Str).length ≤ 16777216 := by
    have h1 : (" " : Str).length = 1 := by decide +kernel
    have h2 := w.sm
    rw [h1]
    omega
  have hts : toks (Txt.join " " ts) = ts := toks_join1 hw
  refine we_call R.ot hr' passLam (wa_cons ((vd_join (vd_str (s := " ")) (vd_var 6 rfl (tD hls5)) hsum).use fun u H7 e7 du => wa_nil ⟨u, _, rfl, du, join_short w, ?_⟩))
  rw [hts]
  have eN : LamX.ExtN H5 H7 := LamX.ExtN.of e7
  have err : ∀ p : Nat, dueD r ts = .tuple [.str "text", .int 1, .int ((p : Int) + 1)] → TextErr (ca "BadText") E2 H7 1 ((p : Int) + 1) := fun p ed dd H' e' x => he dd H' _ ⟨_, 1, (p : Int) + 1, x, rfl, rfl, rfl⟩ fun w' H'' e'' dw' => by
    have e8 : LamX.ExtN H5 H'' := eN.trans (LamX.ExtN.of (Evl.Ex.trans e' e''))
    have W8 := W5.ex (Evl.Ex.trans e7 (Evl.Ex.trans e' e''))
    exact ne_same (by rw [ed]; exact dw') (vd_var 10 rfl (dp_n e8 _ _ D5)) (shaped_due r ts) fun H9 e9 => iteF (ws_nil (ws_nil (k _ _ _ _ _ _ H9 (W8.ex e9))))
  cases r with
  | ok vj =>
    obtain ⟨pv, j⟩ := vj
    have hj2 := hj pv j rfl
    by_cases hjl : ts.length ≤ j
    · have ed : dueD (.ok (pv, j)) ts = .none := if_pos (by show (true && decide ((j : Int) = ts.length)) = true; rw [Bool.true_and]; exact decide_eq_true (by omega))
      refine ⟨.ok pv, by unfold pAll; rw [hp]; exact if_pos hjl, fun w' H' e' dw' => hq _ _ ?_⟩
      have e8 : LamX.ExtN H5 H' := eN.trans (LamX.ExtN.of e')
      have W8 := W5.ex (Evl.Ex.trans e7 e')
      exact ne_same (by rw [ed]; exact .non) (vd_var 10 rfl (dp_n e8 _ _ D5)) (shaped_due _ ts) fun H9 e9 => iteF (ws_nil (ws_nil (k _ _ _ _ _ _ H9 (W8.ex e9))))
    · exact ⟨.error j, by unfold pAll; rw [hp]; exact if_neg hjl, err j (if_neg (by show ¬ ((true && decide ((j : Int) = ts.length)) = true); rw [Bool.true_and]; simp; omega))⟩
  | error p => exact ⟨.error p, by unfold pAll; rw [hp], err p (if_neg (by show ¬ ((false && decide ((p : Int) = ts.length)) = true); simp))⟩
end
end G

/-! # X10b: the first statements of a turn -/
namespace G
open PySem PySem.Spec PyProof.Rows L2
section
variable {g : Gd} {ca : Str → Addr} {c P : Addr} {T : List (Addr × Str)} {f : Addr} {A : Around} {outer : List Env} {s : Shared} {H : Hp} {E : XK} {a lc lt : Addr} {v : V} {d : PyData} {z : Str} {D : Ends}
def argAt (i : Nat) : Stmt → Expr
  | .Assign _ (.Call _ es _ _) _ => es.getD i (.Constant .none 0 ⟨0, 0, 0, 0⟩)
  | _ => .Constant .none 0 ⟨0, 0, 0, 0⟩
def oddE : Expr := argAt 1 (loopR.getD 0 (.Pass ⟨0, 0, 0, 0⟩))
def elts : Expr → List Expr
  | .List es _ => es
  | _ => []
def posL : Expr → Pos
  | .List _ p => p
  | _ => ⟨0, 0, 0, 0⟩
theorem va_odds {X : Cx} {σ : St} {H1 : Hp} {es : List Expr} (he : es = elts oddE) : VA X es σ H1 [.str "(", .str ")", .str ",", .str "-", .str "/", .str "0", .str "1", .str "2", .str "06", .str "x", .str "+", .str big7] := by
  subst he
  conv => arg 2; whnf
  refine va_str ?_
  conv => arg 2; whnf
  refine va_str ?_
  refine va_str ?_
  refine va_str ?_
  refine va_str ?_
  refine va_str ?_
  refine va_str ?_
  refine va_str ?_
  refine va_str ?_
  refine va_str ?_
  refine va_str ?_
  exact va_bin vd_big7 va_nil
theorem odd_eq : oddE = .List (elts oddE) (posL oddE) := rfl
theorem vl_odds {X : Cx} {σ : St} {H1 : Hp} {e : Expr} (he : e = oddE) : VL X e σ H1 (strD odds) := by
  subst he
  rw [odd_eq, strD_odds]
  refine vl_lst ?_ ?_
  · refine va_odds ?_
    rfl
  · show 12 ≤ 100000
    decide
theorem we_odds {X : Cx} {σ : St} {H1 : Hp} {e : Expr} {Q : VK} (he : e = oddE) (k : ∀ w H', Ex H1 H' → DpL X.K H' w (strD odds) → Q w H') : WE X e σ H1 Q := VL.use (vl_odds he) k
theorem lp_odd (R : RightF g ca 20) (hr : Room 39 (A.deeper (envOfC "_law_right" (defScope s__law_right) s.heap.objs.size f (.ref c)))) {H6 H1 : Hp} {o7 o8 o9 o10 : Option V} {t : Int} {ls : Addr} {i : Nat} (W : Wd a lc T H6 H1)
    (k : ∀ o H', o ∈ odds → Wd a lc T H6 H' → (∀ l xs, H1 l = some (.lst xs) → H' l = some (.lst xs)) → WS (cxR g f c A outer s H E) (loopR.drop 1) D [some (.ref a), some v, some (.str z), some (.ref lt), some (.int t), some (.int (i : Int)), some (.ref ls), some (.str o), o8, o9, o10] H') :
    WS (cxR g f c A outer s H E) loopR D [some (.ref a), some v, some (.str z), some (.ref lt), some (.int t), some (.int (i : Int)), some (.ref ls), o7, o8, o9, o10] H1 := by
  refine ws_set 7 sc_right.nd (we_call0 R.pick (hr.mono (by omega)) (wa_cons (we_var 0 rfl (wa_cons ?_))))
  refine we_odds ?_ ?_
  · rfl
  intro w2 H2 e2 d2
  obtain ⟨l, xs, rfl, hl, dx⟩ := d2
  obtain rfl := dx.strD_v
  refine wa_nil ⟨a, lc, l, _, rfl, W.pen.up e2, hl, by rw [List.length_map, odds_len]; decide, by rw [List.length_map, odds_len]; decide, fun j x H' hj P' K' => ?_⟩
  obtain ⟨o, ho, rfl⟩ : ∃ o, o ∈ odds ∧ x = .str o := by
    obtain ⟨o, ho, e⟩ := List.mem_map.mp (List.mem_of_getElem? hj)
    exact ⟨o, ho, e.symm⟩
  exact k o H' ho ((W.ex e2).go P' K') fun l xs hl => K'.lst_pen (W.pen.up e2) (e2 _ _ hl)
/-- the changed list -/
theorem lp_some (nm : Nm g.mg) (R : RightF g ca 20) (hr : Room 39 (A.deeper (envOfC "_law_right" (defScope s__law_right) s.heap.objs.size f (.ref c)))) {H6 H1 : Hp} {o8 o9 o10 : Option V} {t : Int} {ts : List Str} {ls : Addr} {i : Nat} {o : Str} (W : Wd a lc T H6 H1)
    (hv : ∀ t ∈ ts, VT1 t) (hl : ts.length ≤ 200) (ho : opens ts ≤ 13) (how : TokW o) (hls : H1 ls = some (.lst (ts.map V.str)))
    (k : ∀ ts' l' H', WT1 ts' → H' l' = some (.lst (ts'.map V.str)) → Wd a lc T H6 H' → WS (cxR g f c A outer s H E) (loopR.drop 2) D [some (.ref a), some v, some (.str z), some (.ref lt), some (.int t), some (.int (i : Int)), some (.ref l'), some (.str o), o8, o9, o10] H') :
    WS (cxR g f c A outer s H E) (loopR.drop 1) D [some (.ref a), some v, some (.str z), some (.ref lt), some (.int t), some (.int (i : Int)), some (.ref ls), some (.str o), o8, o9, o10] H1 := by
  have tD : ∀ {H'}, Ex H1 H' → Dp g.K H' (.ref ls) (.list (strD ts)) := fun h => DpL.dp ⟨ls, _, rfl, h _ _ hls, .of_strD _⟩
  have lc1 : ∀ j : Nat, (cutD (strD ts) none (some (j : Int))).length ≤ 200 := fun j => by rw [cut_take, strD, List.length_map, List.length_take]; omega
  have lc2 : ∀ j : Nat, (cutD (strD ts) (some (j : Int)) none).length ≤ 200 := fun j => by rw [cut_drop, strD, List.length_map, List.length_drop]; omega
  have e4 : ∀ x y : List Str, strD x ++ [PyData.str o] ++ strD y = strD (x ++ [o] ++ y) := fun x y => by rw [strD_app, strD_app]; rfl
  refine ws_set 6 sc_right.nd (we_call0 R.pick (hr.mono (by omega)) (wa_cons (we_var 0 rfl (wa_cons (we_lst ?_)))))
  have z1 : (cutD (strD ts) none (some (i : Int))).length + 1 ≤ sizeLine := small_line (Nat.le_trans (Nat.add_le_add_right (lc1 i) 1) (by decide))
  have z2 : ∀ j : Nat, (cutD (strD ts) none (some (i : Int)) ++ [PyData.str o]).length + (cutD (strD ts) (some (j : Int)) none).length ≤ sizeLine := fun j => small_line (by have h1 := lc1 i; have h2 := lc2 j; rw [List.length_append, List.length_singleton]; omega)
  have z3 : (cutD (strD ts) none (some (i : Int))).length + (cutD (strD ts) (some ((i + 1 : Nat) : Int)) none).length ≤ sizeLine := small_line (by have h1 := lc1 i; have h2 := lc2 (i + 1); omega)
  refine wa_cons (VL.use (d := strD (ts.take i ++ [o] ++ ts.drop (i + 1))) (VL.to (vl_cat (vl_cat (vl_cut (vd_var 6 rfl (tD (Evl.Ex.refl _))) vo_none (vo_some (vd_var 5 rfl (.int (i : Int))))) (vl_lst (va1 (vd_var 7 rfl (.str o))) (show 1 ≤ 100000 by decide)) z1) (vl_cut (vd_var 6 rfl (tD (Evl.Ex.refl _))) (vo_some (vd_add (vd_var 5 rfl (.int (i : Int))) (vd_int (i := 1)))) vo_none) (z2 (i + 1))) ?_) fun v1 H2 e2 d1 => ?_)
  · show cutD (strD ts) none (some (i : Int)) ++ [PyData.str o] ++ cutD (strD ts) (some ((i + 1 : Nat) : Int)) none = _
    rw [cut_take, cut_drop, e4]
  refine wa_cons (VL.use (d := strD (ts.take i ++ [o] ++ ts.drop i)) (VL.to (vl_cat (vl_cat (vl_cut (vd_var 6 rfl (tD e2)) vo_none (vo_some (vd_var 5 rfl (.int (i : Int))))) (vl_lst (va1 (vd_var 7 rfl (.str o))) (show 1 ≤ 100000 by decide)) z1) (vl_cut (vd_var 6 rfl (tD e2)) (vo_some (vd_var 5 rfl (.int (i : Int)))) vo_none) (z2 i)) ?_) fun v2 H3 e3 d2 => ?_)
  · rw [cut_take, cut_drop, e4]
  have e23 := Evl.Ex.trans e2 e3
  refine wa_cons (VL.use (d := strD (ts.take i ++ ts.drop (i + 1))) (VL.to (vl_cat (vl_cut (vd_var 6 rfl (tD e23)) vo_none (vo_some (vd_var 5 rfl (.int (i : Int))))) (vl_cut (vd_var 6 rfl (tD e23)) (vo_some (vd_add (vd_var 5 rfl (.int (i : Int))) (vd_int (i := 1)))) vo_none) z3) ?_) fun v3 H4 e4' d3 => ?_)
  · show cutD (strD ts) none (some (i : Int)) ++ cutD (strD ts) (some ((i + 1 : Nat) : Int)) none = _
    rw [cut_take, cut_drop, ← strD_app]
  have e234 := Evl.Ex.trans e23 e4'
  refine wa_cons (VL.use (d := strD (ts.take i)) (VL.to (vl_cut (vd_var 6 rfl (tD e234)) vo_none (vo_some (vd_var 5 rfl (.int (i : Int))))) (cut_take ts i)) fun v4 H5 e5 d4 => wa_nil ⟨show 4 ≤ sizeLine from small_line (by decide), fun p hp => wa_nil ⟨a, lc, p, _, rfl, (W.pen.up (Evl.Ex.trans e234 e5)).up (Evl.Ex.new hp), upd_same, by show 0 < 4; decide, by show 4 ≤ 100000; decide, fun j x H' hj P' K' => ?_⟩⟩)
  have eN := Evl.Ex.new (o := .lst [v1, v2, v3, v4]) hp
  have W6 := (W.ex (Evl.Ex.trans e234 e5)).ex eN
  obtain ⟨ts', l', hw, rfl, hl'⟩ := pick4 (((d1.up (Evl.Ex.trans e3 e4')).up e5).up eN) (((d2.up e4').up e5).up eN) ((d3.up e5).up eN) (d4.up eN) (wt_ins hv hl ho how i (i + 1) (Nat.le_succ i)) (wt_ins hv hl ho how i i (Nat.le_refl i)) (wt_del hv hl ho i (i + 1) (Nat.le_succ i)) (wt_cut hv hl ho i) hj
  exact k ts' l' H' hw (K'.lst_pen W6.pen hl') (W6.go P' K')
end
end G

/-! # X10: _law_right holds -/
namespace G
open PySem PySem.Spec PyProof.Rows L2
section
variable {g : Gd} {ca : Str → Addr}
theorem ok_right {c P : Addr} {T : List (Addr × Str)} (nm : Nm g.mg) (ex : EXs g.K g.mg ca) (F : FTC g "_law_right" s__law_right c) (FF : FT g "_law_fault" s__law_fault) (GK : FdE (fun _ => True) g "_law_kinds" ["e"] 2 (spKind g.K ca "BadText" PPt)) (TB : LamX.TabB g.base g.mg c P) (hmT : (P, lamQ "_law_right") ∈ T) (hu : ∀ p ∈ T, p.1 = P → p.2 = lamQ "_law_right") (R : RightF g ca 20) : Fd g "_law_right" ["pen"] 40 (spRight T) := by
  refine fdc_of F sc_right (fun _ _ _ _ ⟨a, lc, e, _⟩ => by rw [e] <;> rfl) (fun _ _ _ _ _ _ us hl => match us, hl with | [_], _ => rfl) (fun f A outer s H vs Q E hr h => ?_)
  obtain ⟨a, lc, rfl, PN, hT, k⟩ := h
  have W0 : Wd a lc T H H := ⟨PN, hT, .refl a H⟩
  refine ws_set 1 sc_right.nd (we_call0 R.drawn (hr.mono (by omega)) (wa_cons (we_var 0 rfl (wa_cons (vd_int.use fun w1 H1 e1 d1 => wa_nil ⟨a, lc, by rw [d1.int_v]; rfl, PN.up e1, fun d v H2 hd D2 P2 K2 => ?_⟩)))))
  have W2 : Wd a lc T H H2 := (W0.ex e1).go P2 K2
  obtain ⟨m1, m2, m3, m4⟩ := dval_more 3 hd
  have im : imm d = true := DVal.imm 3 hd
  have ok := tok_ok 3 hd
  have hB : (tokD d).length ≤ 200 := Nat.le_trans (dval_len 3 hd) (by decide)
  have hl40 : ∀ t ∈ tokD d, t.length ≤ 40 := fun t ht => (ok.vt t ht).len
  have hglu := glu_len _ hl40
  have hop : opens (tokD d) ≤ 13 := Nat.le_trans (dval_opens 3 hd) (by decide)
  obtain ⟨z, hz⟩ : ∃ z, z = mkS (gluL (tokD d)) := ⟨_, rfl⟩
  have hzt : textV d = z := by rw [hz, ← text_glu 3 hd, mkS_tl]
  have hzl : z.length ≤ 9000 := by rw [hz, mkS_len]; omega
  refine ws_set 2 sc_right.nd (we_call0 R.text (hr.mono (by omega)) (wa_cons (we_var 1 rfl (wa_nil ⟨v, d, rfl, D2, hd, no_trail ok, by omega, fun t ht => Nat.le_trans (hl40 t ht) (by decide), fun H3 e3 => ?_⟩))))
  rw [← hz]
  have W3 := W2.ex e3
  have D3 := D2.up e3
  have isT : ∀ {p1 p3 : Pos} {e1 e2 : Expr} {o3 : Option V} {H' : Hp} {dd : PyData}, tidy dd = true → dd.depth < 20 → lens dd = true → VD (cxOf (CXg g) g.P g.w g.K g.mg g.base nRight "_law_right" (defScope s__law_right) f (.ref c) A outer s H E) e1 [some (.ref a), some v, some (.str z), o3, none, none, none, none, none, none, none] H' dd → VD (cxOf (CXg g) g.P g.w g.K g.mg g.base nRight "_law_right" (defScope s__law_right) f (.ref c) A outer s H E) e2 [some (.ref a), some v, some (.str z), o3, none, none, none, none, none, none, none] H' dd →
      starEach [e1, e2] (cxOf (CXg g) g.P g.w g.K g.mg g.base nRight "_law_right" (defScope s__law_right) f (.ref c) A outer s H E).env = (false, eval e1 (cxOf (CXg g) g.P g.w g.K g.mg g.base nRight "_law_right" (defScope s__law_right) f (.ref c) A outer s H E).env) :: starEach [e2] (cxOf (CXg g) g.P g.w g.K g.mg g.base nRight "_law_right" (defScope s__law_right) f (.ref c) A outer s H E).env →
      starEach [e2] (cxOf (CXg g) g.P g.w g.K g.mg g.base nRight "_law_right" (defScope s__law_right) f (.ref c) A outer s H E).env = (false, eval e2 (cxOf (CXg g) g.P g.w g.K g.mg g.base nRight "_law_right" (defScope s__law_right) f (.ref c) A outer s H E).env) :: starEach [] (cxOf (CXg g) g.P g.w g.K g.mg g.base nRight "_law_right" (defScope s__law_right) f (.ref c) A outer s H E).env →
      (backTo p3 (starEach [e2] (cxOf (CXg g) g.P g.w g.K g.mg g.base nRight "_law_right" (defScope s__law_right) f (.ref c) A outer s H E).env)).any (·.1) = false → VD (cxOf (CXg g) g.P g.w g.K g.mg g.base nRight "_law_right" (defScope s__law_right) f (.ref c) A outer s H E) (.Call (.Name "_law_is" p1) [e1, e2] [] p3) [some (.ref a), some v, some (.str z), o3, none, none, none, none, none, none, none] H' (.bool true) := fun t1 t2 t3 h1 h2 q1 q2 q3 H4 e4 =>
    we_call0 R.is_ (hr.mono (by omega)) (wa_cons ((h1.at_ e4).use fun w1 H5 e5 d1 => wa_cons ((h2.at_ (Evl.Ex.trans e4 e5)).use fun w2 H6 e6 d2 => wa_nil ⟨w1, w2, _, rfl, d1.up e6, d2, t1, t2, t3, fun H7 e7 => ⟨Evl.Ex.trans e5 (Evl.Ex.trans e6 e7), .bl true⟩⟩) q2) q1) rfl (by decide) q1 q3
  refine ws_if (VW.vt (vw_or (vt_not (vt_val (isT (dd := .str z) rfl (by simp [PyData.depth]) rfl (fun H4 e4 => we_call0 R.vt (hr.mono (by omega)) (wa_cons (we_var 1 rfl (wa_nil ⟨v, d, rfl, D3.up e4, by omega, m1, ?_⟩)))) (vd_var 2 rfl (.str z)) rfl rfl rfl))) fun _ => vw_or1 (vt_not (vt_val (isT (dd := d) m2 (by omega) m1 (fun H4 e4 => we_call0 R.ot (hr.mono (by omega)) (wa_cons (we_var 2 rfl (wa_nil ⟨_, .str z, rfl, .str z, by omega, .ok d, ?_, fun w H5 e5 dw => ⟨e5, dw⟩⟩)))) (vd_var 1 rfl D3) rfl rfl rfl))))) (fun hb H4 e4 => by cases hb) (fun hb H4 e4 => ws_nil ?_)
  · rw [if_pos (dval_plain 3 0 hd (by decide) (by decide)), m4]
    exact ⟨im, by omega, dval_talks 3 hd, m1, by rw [hzt]; omega, fun H5 e5 => by rw [hzt]; exact ⟨e5, .str z⟩⟩
  · rw [hz, toks_text hd]
    exact all_read hd (by decide)
  have W4 := W3.ex e4
  have D4 := D3.up e4
  refine ws_set 3 sc_right.nd (we_call0 R.toks (hr.mono (by omega)) (wa_cons (we_var 1 rfl (wa_nil ⟨v, d, rfl, D4, hd, fun w H5 e5 ⟨lt, xs, ew, hlt, dx⟩ => ?_⟩))))
  obtain rfl := dx.strD_v
  subst ew
  have W5 := W4.ex e5
  have D5 := D4.up e5
  have tD : ∀ {H'}, Ex H5 H' → Dp g.K H' (.ref lt) (.list (strD (tokD d))) := fun e => DpL.dp ⟨lt, _, rfl, e _ _ hlt, .of_strD _⟩
  have hne0 : 0 < (tokD d).length := by
    cases e : tokD d with
    | nil => exact absurd e ok.ne
    | cons x xs => simp
  have hsum := sum40 ok.vt
  have l1 : (" " : Str).length = 1 := by decide +kernel
  have l2 : ("  " : Str).length = 2 := by decide +kernel
  have hj := join_len "  " (tokD d) ok.ne
  rw [l2] at hj
  refine ws_if (vt_not (vt_val (isT (dd := d) m2 (by omega) m1 (fun H6 e6 => we_call0 R.ot (hr.mono (by omega)) (wa_cons ((vd_addS (vd_addS (vd_str (s := " ")) (vd_join (vd_str (s := "  ")) (vd_var 3 rfl (tD e6)) ?_) ?_) (vd_str (s := " ")) ?_).use fun u H7 e7 du => wa_nil ⟨u, _, rfl, du, ?_, .ok d, ?_, fun w H8 e8 dw => ⟨Evl.Ex.trans e7 e8, dw⟩⟩))) (vd_var 1 rfl D5) rfl rfl rfl))) (fun hb H6 e6 => by cases hb) (fun hb H6 e6 => ws_nil ?_)
  · rw [l2]; omega
  · rw [l1]; exact Nat.le_trans (by omega) (show 20000 ≤ sizeLine by decide)
  · rw [len_app, l1]; exact Nat.le_trans (by omega) (show 20000 ≤ sizeLine by decide)
  · rw [len_app, len_app, l1]; omega
  · rw [toks_join2 (fun t ht => (ok.vt t ht).good)]
    exact all_read hd (by decide)
  have W6 := W5.ex e6
  have hlt6 := e6 _ _ hlt
  refine ws_forR (n := 6) 4 (fun _ σ H' => ∃ o4 o5 o6 o7 o8 o9 o10, σ = [some (.ref a), some v, some (.str z), some (.ref lt), o4, o5, o6, o7, o8, o9, o10] ∧ Wd a lc T H6 H') passO rfl sc_right.nd nm.range (vd_int.use fun w H7 e7 dw => ⟨dw.int_v, _, _, _, _, _, _, _, rfl, (⟨W6.pen, W6.tab, .refl a H6⟩ : Wd a lc T H6 H6).ex e7⟩) (by decide) ?_ ?_
  · rintro t σ H7 ht ⟨o4, o5, o6, o7, o8, o9, o10, rfl, W7⟩
    have hlt7 := W7.kp.lst W6.pen hlt6
    have tD7 : ∀ {H'}, H' lt = some (.lst ((tokD d).map V.str)) → Dp g.K H' (.ref lt) (.list (strD (tokD d))) := fun h => DpL.dp ⟨lt, _, rfl, h, .of_strD _⟩
    refine ws_unp2 5 6 rfl sc_right.nd (we_tup (wa_cons (we_draw R.draw (hr.mono (by omega)) 0 rfl ((vd_len nm.len (vd_var 3 rfl (tD7 hlt7))).to (by rw [strD, List.length_map])) W7.pen (by omega) (by omega) fun at0 H8 a0 a1 P8 K8 => wa_cons ((vl_list nm.list (vd_var 3 rfl (tD7 (K8.lst_pen W7.pen hlt7)))).use fun w9 H9 e9 ⟨ls, xs, ew, hls, dx⟩ => wa_nil ⟨show 2 ≤ sizeLine from small_line (by decide), fun p hp => ?_⟩))))
    obtain rfl := dx.strD_v
    subst ew
    obtain ⟨i, rfl⟩ : ∃ i : Nat, at0 = i := ⟨at0.toNat, by omega⟩
    refine ⟨p, _, _, rfl, SqT.of upd_same, ?_⟩
    have W9 : Wd a lc T H6 (upd H9 p (.tup [.int (i : Int), .ref ls])) := ((W7.go P8 K8).ex e9).ex (Evl.Ex.new hp)
    have hls9 := (Evl.Ex.new (o := .tup [.int (i : Int), .ref ls]) hp) _ _ hls
    generalize upd H9 p (.tup [.int (i : Int), .ref ls]) = H10 at W9 hls9
    have hr39 : Room 39 (A.deeper (envOfC "_law_right" (defScope s__law_right) s.heap.objs.size f (.ref c))) := hr
    refine lp_odd (t := (t : Int)) (i := i) R hr39 W9 fun o H11 hod W11 k11 => ?_
    refine lp_some nm R hr39 W11 ok.vt hB hop (odd_w o hod) (k11 _ _ hls9) fun ts' l' H12 hw hl' W12 => ?_
    exact lp_end (by exact nm) (by exact ex) FF GK TB hmT hu R hr39 W12 hw hl' fun o5 o6 o7 o8 o9 o10 H13 W13 => ⟨_, _, _, _, _, _, _, rfl, W13⟩
  · rintro σ H7 ⟨o4, o5, o6, o7, o8, o9, o10, rfl, W7⟩
    refine ws_retD vd_bl fun w H8 e8 dw => ?_
    obtain rfl := dw.bl_v
    have W8 := W7.ex e8
    exact k H8 ⟨W8.pen, W8.tab, W6.kp.trans W8.kp⟩
end
end G

/-! # X11: the values that are none; the law's last lists -/
namespace G
open PySem PySem.Spec PyProof.Rows L2
abbrev nLaw : List Str := ["script", "pen", "lap", "bad", "odd"]
theorem sc_law : FnScope nLaw ["script"] (defScope s_law) := ⟨rfl, rfl, rfl, by decide +kernel, rfl, by decide +kernel, by decide +kernel⟩
abbrev cxL (g : Gd) (f c : Addr) (A : Around) (outer : List Env) (s : Shared) (H : Hp) (E : XK) : Cx := cxOf (CXg g) g.P g.w g.K g.mg g.base nLaw "law" (defScope s_law) f (.ref c) A outer s H E
def bigA : Int := 10 ^ 400
def bigB : Int := 7 * ((10 ^ 401 - 1) / 9)
def bads : List PyData := [.none, .str "1", .bool true, .tuple [.int 1, .none], .tuple [.tuple [.int 1, .str "2"]], .tuple [.none], .tuple [.int 1, .tuple [.int 0, .int bigA]], .tuple [.int 3, .int bigB]]
/-- such a value: the empty dict, or one of these -/
def BadV (K : PySem.W.Frag) (H : Hp) (v : V) : Prop := (∃ a, v = .ref a ∧ H a = some (.dK [])) ∨ ∃ d ∈ bads, Dp K H v d
theorem BadV.up {K : PySem.W.Frag} {H H' : Hp} {v : V} (h : BadV K H v) (e : Ex H H') : BadV K H' v := by
  rcases h with ⟨a, h1, h2⟩ | ⟨d, h1, h2⟩
  · exact .inl ⟨a, h1, e _ _ h2⟩
  · exact .inr ⟨d, h1, h2.up e⟩
theorem BadV.upN {K : PySem.W.Frag} {H H' : Hp} {v : V} (h : BadV K H v) (e : LamX.ExtN H H') : BadV K H' v := by
  rcases h with ⟨a, h1, h2⟩ | ⟨d, h1, h2⟩
  · exact .inl ⟨a, h1, e _ _ h2 (fun _ z => by cases z)⟩
  · exact .inr ⟨d, h1, dp_n e _ _ h2⟩
theorem bads_none : ∀ d ∈ bads, isPlain d 0 = false := by
  have h : (bads.all fun d => !isPlain d 0) = true := by decide +kernel
  intro d hd
  simpa using List.all_eq_true.mp h d hd
theorem bads_ok : ∀ d ∈ bads, lens d = true ∧ d.hasDict = false ∧ d.showable = true ∧ d.depth ≤ 8 ∧ imm d = true := by
  have h : (bads.all fun d => lens d && (!d.hasDict && (d.showable && (decide (d.depth ≤ 8) && imm d)))) = true := by decide +kernel
  intro d hd
  simpa using List.all_eq_true.mp h d hd
/-- a text of few and right signs -/
def fineS (x : Str) : Bool := decide ((tl x).length ≤ 500) && (tl x).all fun c => decide (c < 1114112)
theorem shown2 (x y : PyData) : (PyData.tuple [x, y]).shown = ("(" : Str) ++ (x.shown ++ ", " ++ y.shown) ++ ")" := by
  simp only [PyData.shown, PyData.shownAll]
  rfl
theorem tl_ap (a b : Str) : tl (a ++ b) = tl a ++ tl b := by
  show (a.cps ++ b.cps).toList = _
  rw [Array.toList_append]
theorem fine2 {x y : PyData} {n m : Nat} (hx : (tl x.shown).length ≤ n ∧ ∀ c ∈ tl x.shown, c < 1114112) (hy : (tl y.shown).length ≤ m ∧ ∀ c ∈ tl y.shown, c < 1114112) : (tl (PyData.tuple [x, y]).shown).length ≤ n + m + 4 ∧ ∀ c ∈ tl (PyData.tuple [x, y]).shown, c < 1114112 := by
  have e1 : tl ("(" : Str) = [40] := by decide +kernel
  have e2 : tl (", " : Str) = [44, 32] := by decide +kernel
  have e3 : tl (")" : Str) = [41] := by decide +kernel
  rw [shown2, tl_ap, tl_ap, tl_ap, tl_ap, e1, e2, e3]
  refine ⟨by simp only [List.length_append, List.length_cons, List.length_nil]; omega, fun c hc => ?_⟩
  simp only [List.mem_append, List.mem_cons, List.not_mem_nil, or_false] at hc
  rcases hc with (rfl | (h | rfl | rfl) | h) | rfl
  · decide
  · exact hx.2 c h
  · decide
  · decide
  · exact hy.2 c h
  · decide
theorem fine_of {d : PyData} (h : fineS d.shown = true) : (tl d.shown).length ≤ 500 ∧ ∀ c ∈ tl d.shown, c < 1114112 := by
  unfold fineS at h
  simp only [Bool.and_eq_true, decide_eq_true_eq] at h
  exact ⟨h.1, fun c hc => by simpa using List.all_eq_true.mp h.2 c hc⟩
theorem fine_int {n k : Nat} (hk : 0 < k) (h : n < 10 ^ k) : (tl (PyData.int (n : Int)).shown).length ≤ k ∧ ∀ c ∈ tl (PyData.int (n : Int)).shown, c < 1114112 := by
  have e : (PyData.int (n : Int)).shown = numS (n : Int) := rfl
  rw [e]
  refine ⟨?_, fun c hc => ?_⟩
  · rw [← TL.len_tl]
    exact num_len hk h
  · rw [tl_numS] at hc
    have := TL.numL_digits n c hc
    omega
def natA : Nat := 10 ^ 400
def natB : Nat := 7 * ((10 ^ 401 - 1) / 9)
theorem bigA_nat : bigA = (natA : Nat) := by decide +kernel
theorem bigB_nat : bigB = (natB : Nat) := by decide +kernel
theorem natA_lt : natA < 10 ^ 401 := by decide +kernel
theorem natB_lt : natB < 10 ^ 401 := by decide +kernel
theorem bads_fine : ∀ d ∈ bads, (tl d.shown).length ≤ 2000 ∧ ∀ c ∈ tl d.shown, c < 1114112 := by
  have low : ∀ {d : PyData}, fineS d.shown = true → (tl d.shown).length ≤ 2000 ∧ ∀ c ∈ tl d.shown, c < 1114112 := fun h => ⟨Nat.le_trans (fine_of h).1 (by decide), (fine_of h).2⟩
  have up : ∀ {d : PyData} {n : Nat}, n ≤ 2000 → (tl d.shown).length ≤ n ∧ (∀ c ∈ tl d.shown, c < 1114112) → (tl d.shown).length ≤ 2000 ∧ ∀ c ∈ tl d.shown, c < 1114112 := fun h z => ⟨Nat.le_trans z.1 h, z.2⟩
  intro d hd
  simp only [bads, List.mem_cons, List.not_mem_nil, or_false] at hd
  rcases hd with rfl | rfl | rfl | rfl | rfl | rfl | rfl | rfl
  · exact low (by decide +kernel)
  · exact low (by decide +kernel)
  · exact low (by decide +kernel)
  · exact low (by decide +kernel)
  · exact low (by decide +kernel)
  · exact low (by decide +kernel)
  · exact up (n := 500 + (500 + 401 + 4) + 4) (by decide) (fine2 (fine_of (by decide +kernel)) (fine2 (fine_of (by decide +kernel)) (by rw [bigA_nat]; exact fine_int (by decide : 0 < 401) natA_lt)))
  · exact up (n := 500 + 401 + 4) (by decide) (fine2 (fine_of (by decide +kernel)) (by rw [bigB_nat]; exact fine_int (by decide : 0 < 401) natB_lt))
theorem bads_shown : ∀ d ∈ bads, d.shown.length ≤ 1000000 := fun d hd => by
  rw [TL.len_tl]
  exact Nat.le_trans (bads_fine d hd).1 (by decide)
theorem bads_sok : ∀ d ∈ bads, PyData.strOk d.shown = true := fun d hd => strOk_of (bads_fine d hd).2
theorem fold_rep (c : Nat) : ∀ (k : Nat) (a : Array Nat), ((List.replicate k #[c]).foldl (· ++ ·) a).toList = a.toList ++ List.replicate k c
  | 0, a => by simp
  | k + 1, a => by
    rw [List.replicate_succ, List.foldl_cons, fold_rep c k]
    simp [List.replicate_succ]
theorem tl_mul {c : Nat} {n : Int} (h : 1 < n) : tl (Txt.mul ⟨#[c]⟩ n) = List.replicate n.toNat c := by
  unfold Txt.mul
  rw [if_neg (by omega), if_neg (by
    have e : (n == 1) = false := by
      rw [beq_eq_false_iff_ne]
      omega
    rw [e]
    show ¬ ((false || (1 == 0)) = true)
    decide)]
  have z := fold_rep c n.toNat #[]
  simpa using z
theorem tl_mul0 : tl (Txt.mul "0" 400) = List.replicate 400 48 := tl_mul (c := 48) (n := 400) (by decide)
theorem tl_big7 : tl big7 = List.replicate 401 55 := tl_mul (c := 55) (n := 401) (by decide)
theorem intA : PySem.intText? ((("1" : Str) ++ Txt.mul "0" 400)) = some bigA := by
  have e : tl ((("1" : Str) ++ Txt.mul "0" 400)) = 49 :: List.replicate 400 48 := by
    rw [tl_ap, tl_mul0]
    have e1 : tl ("1" : Str) = [49] := by decide +kernel
    rw [e1]
    rfl
  have z := PySem.intText_digits (x := ("1" : Str) ++ Txt.mul "0" 400) (fun c hc => by
    have hc' : c ∈ tl (("1" : Str) ++ Txt.mul "0" 400) := hc
    rw [e] at hc'
    rcases List.mem_cons.mp hc' with rfl | h
    · decide
    · rw [(List.mem_replicate.mp h).2]; decide) (fun q => by
    have q' : tl (("1" : Str) ++ Txt.mul "0" 400) = [] := q
    rw [e] at q'
    cases q') (by rw [TL.len_tl]; show (tl _).length ≤ 4300; rw [e]; simp)
  rw [z]
  show some ((PySem.NumText.digitsVal (tl (("1" : Str) ++ Txt.mul "0" 400)) : Nat) : Int) = _
  rw [e]
  decide +kernel
theorem intB : PySem.intText? big7 = some bigB := by
  have z := PySem.intText_digits (x := big7) (fun c hc => by
    have hc' : c ∈ tl big7 := hc
    rw [tl_big7] at hc'
    rw [(List.mem_replicate.mp hc').2]; decide) (fun q => by
    have q' : tl big7 = [] := q
    rw [tl_big7] at q'
    cases q') (by rw [TL.len_tl]; show (tl _).length ≤ 4300; rw [tl_big7]; simp)
  rw [z]
  show some ((PySem.NumText.digitsVal (tl big7) : Nat) : Int) = _
  rw [tl_big7]
  decide +kernel
end G

/-! # X12: the law's last lists are made -/
namespace G
open PySem PySem.Spec PyProof.Rows L2
section
variable {X : Cx} {σ : St} {H : Hp} {es a : List Expr} {j : Nat} {p : Pos} {Q : List V → Hp → Prop} {d : PyData}
theorem wa_D {e : Expr} (h : VD X e σ H d) (hs : starEach (e :: es) X.env = (false, eval e X.env) :: starEach es X.env) (k : ∀ v H', Ex H H' → Dp X.K H' v d → WA X es σ H' fun vs H2 => Q (v :: vs) H2) : WA X (e :: es) σ H Q := wa_cons (h.use k) hs
theorem wa_non (k : ∀ v H', Ex H H' → Dp X.K H' v .none → WA X es σ H' fun vs H2 => Q (v :: vs) H2) : WA X (.Constant .none j p :: es) σ H Q := wa_D vd_non se_const k
theorem wa_int {i : Int} (k : ∀ v H', Ex H H' → Dp X.K H' v (.int i) → WA X es σ H' fun vs H2 => Q (v :: vs) H2) : WA X (.Constant (.int i) j p :: es) σ H Q := wa_D vd_int se_const k
theorem wa_str {s : Str} (k : ∀ v H', Ex H H' → Dp X.K H' v (.str s) → WA X es σ H' fun vs H2 => Q (v :: vs) H2) : WA X (.Constant (.str s) j p :: es) σ H Q := wa_D vd_str se_const k
theorem wa_bl {b : Bool} (k : ∀ v H', Ex H H' → Dp X.K H' v (.bool b) → WA X es σ H' fun vs H2 => Q (v :: vs) H2) : WA X (.Constant (.bool b) j p :: es) σ H Q := wa_D vd_bl se_const k
theorem wa_tup {z} (h : VD X (.Tuple a z p) σ H d) (k : ∀ v H', Ex H H' → Dp X.K H' v d → WA X es σ H' fun vs H2 => Q (v :: vs) H2) : WA X (.Tuple a z p :: es) σ H Q := wa_D h se_tup k
theorem wa_lst (h : VD X (.List a p) σ H d) (k : ∀ v H', Ex H H' → Dp X.K H' v d → WA X es σ H' fun vs H2 => Q (v :: vs) H2) : WA X (.List a p :: es) σ H Q := wa_D h se_list k
theorem wa_dict (k : ∀ l H', Ex H H' → H' l = some (.dK []) → WA X es σ H' fun vs H2 => Q (.ref l :: vs) H2) : WA X (.Dict [] [] p :: es) σ H Q := wa_cons (.of pe_dnewK fun l hl => k l _ (Evl.Ex.new hl) upd_same) se_dict
end
/-- the list of a call's second argument -/
def badE : Expr := argAt 1 ((defBody s_law).getD 2 (.Pass ⟨0, 0, 0, 0⟩))
def oddL : Expr := argAt 1 ((defBody s_law).getD 3 (.Pass ⟨0, 0, 0, 0⟩))
theorem bad_eq : badE = .List (elts badE) (posL badE) := rfl
theorem oddL_eq : oddL = .List (elts oddL) (posL oddL) := rfl
theorem mulOk0 : MulOk "0" 400 := by
  unfold MulOk
  refine ⟨by decide, fun _ _ => by decide +kernel, fun _ _ => by decide +kernel⟩
theorem len0 : (Txt.mul "0" 400).length = 400 := by decide +kernel
theorem len7 : big7.length = 401 := by decide +kernel
theorem len1 : ("1" : Str).length = 1 := by decide +kernel
section
variable {g : Gd} {c : Addr} {f : Addr} {A : Around} {outer : List Env} {s : Shared} {H : Hp} {E : XK}
set_option maxHeartbeats 400000 in
theorem we_bads (nm : Nm g.mg) {σ : St} {H1 : Hp} {e : Expr} {Q : VK} (he : e = badE) (k : ∀ l vs H', Ex H1 H' → H' l = some (.lst vs) → vs.length = 9 → (∀ v ∈ vs, BadV g.K H' v) → Q (.ref l) H') : WE (cxL g f c A outer s H E) e σ H1 Q := by
  subst he
  rw [bad_eq]
  refine we_lst ?_
  conv => arg 2; whnf
  refine wa_non ?_
  intro v1 H2 e2 d1
  refine wa_str ?_
  intro v2 H3 e3 d2
  refine wa_bl ?_
  intro v3 H4 e4 d3
  refine wa_tup (d := .tuple [.int 1, .none]) ?_ ?_
  · exact vd_tup (va_int (va_non va_nil)) (by show 2 ≤ 100000; decide)
  intro v4 H5 e5 d4
  refine wa_tup (d := .tuple [.tuple [.int 1, .str "2"]]) ?_ ?_
  · exact vd_tup (va_tup (vd_tup (va_int (va_str va_nil)) (by show 2 ≤ 100000; decide)) va_nil) (by show 1 ≤ 100000; decide)
  intro v5 H6 e6 d5
  refine wa_dict ?_
  intro l6 H7 e7 d6
  refine wa_tup (d := .tuple [.none]) ?_ ?_
  · exact vd_tup (va_non va_nil) (by show 1 ≤ 100000; decide)
  intro v7 H8 e8 d7
  refine wa_tup (d := .tuple [.int 1, .tuple [.int 0, .int bigA]]) ?_ ?_
  · refine vd_tup (va_int (va_tup (vd_tup (va_int (va_cll (vd_intS (by exact nm.int) (vd_addS (vd_str (s := "1")) (vd_mulS (vd_str (s := "0")) (vd_int (i := 400)) mulOk0) ?_) intA ?_) va_nil)) (by show 2 ≤ 100000; decide)) va_nil)) (by show 2 ≤ 100000; decide)
    · rw [len0, len1]
      exact small_line (by decide)
    · rw [len_app, len0, len1]
      decide
  intro v8 H9 e9 d8
  refine wa_tup (d := .tuple [.int 3, .int bigB]) ?_ ?_
  · refine vd_tup (va_int (va_cll (vd_intS (by exact nm.int) vd_big7 intB ?_) va_nil)) (by show 2 ≤ 100000; decide)
    rw [len7]
    decide
  intro v9 H10 e10 d9
  refine wa_nil ⟨show 9 ≤ sizeLine from small_line (by decide), fun l hl => ?_⟩
  have eN := Evl.Ex.new (o := .lst [v1, v2, v3, v4, v5, .ref l6, v7, v8, v9]) hl
  have E9 := Evl.Ex.trans e10 eN
  have E8 := Evl.Ex.trans e9 E9
  have E7 := Evl.Ex.trans e8 E8
  have E6 := Evl.Ex.trans e7 E7
  have E5 := Evl.Ex.trans e6 E6
  have E4 := Evl.Ex.trans e5 E5
  have E3 := Evl.Ex.trans e4 E4
  have E2 := Evl.Ex.trans e3 E3
  have E1 := Evl.Ex.trans e2 E2
  refine k l _ _ E1 upd_same rfl fun v hv => ?_
  simp only [List.mem_cons, List.not_mem_nil, or_false] at hv
  rcases hv with rfl | rfl | rfl | rfl | rfl | rfl | rfl | rfl | rfl
  · exact .inr ⟨_, List.mem_of_getElem? (i := 0) rfl, d1.up E2⟩
  · exact .inr ⟨_, List.mem_of_getElem? (i := 1) rfl, d2.up E3⟩
  · exact .inr ⟨_, List.mem_of_getElem? (i := 2) rfl, d3.up E4⟩
  · exact .inr ⟨_, List.mem_of_getElem? (i := 3) rfl, d4.up E5⟩
  · exact .inr ⟨_, List.mem_of_getElem? (i := 4) rfl, d5.up E6⟩
  · exact .inl ⟨l6, rfl, E7 _ _ d6⟩
  · exact .inr ⟨_, List.mem_of_getElem? (i := 5) rfl, d7.up E8⟩
  · exact .inr ⟨_, List.mem_of_getElem? (i := 6) rfl, d8.up E9⟩
  · exact .inr ⟨_, List.mem_of_getElem? (i := 7) rfl, d9.up eN⟩
/-- the odd values that are no texts -/
theorem we_oddL {σ : St} {H1 : Hp} {e : Expr} {Q : VK} (he : e = oddL) (k : ∀ l vs H', Ex H1 H' → H' l = some (.lst vs) → vs.length = 4 → (∀ v ∈ vs, ∃ d, Dp g.K H' v d ∧ ∀ z, d ≠ .str z) → Q (.ref l) H') : WE (cxL g f c A outer s H E) e σ H1 Q := by
  subst he
  rw [oddL_eq]
  refine we_lst ?_
  conv => arg 2; whnf
  refine wa_non ?_
  intro v1 H2 e2 d1
  refine wa_int ?_
  intro v2 H3 e3 d2
  refine wa_bl ?_
  intro v3 H4 e4 d3
  refine wa_lst (d := .list [.str "(1,)"]) ?_ ?_
  · exact VL.vd (vl_lst (va_str va_nil) (by show 1 ≤ 100000; decide))
  intro v4 H5 e5 d4
  refine wa_nil ⟨show 4 ≤ sizeLine from small_line (by decide), fun l hl => ?_⟩
  have eN := Evl.Ex.new (o := .lst [v1, v2, v3, v4]) hl
  have E4 := Evl.Ex.trans e5 eN
  have E3 := Evl.Ex.trans e4 E4
  have E2 := Evl.Ex.trans e3 E3
  refine k l _ _ (Evl.Ex.trans e2 E2) upd_same rfl fun v hv => ?_
  simp only [List.mem_cons, List.not_mem_nil, or_false] at hv
  rcases hv with rfl | rfl | rfl | rfl
  · exact ⟨_, d1.up E2, fun z q => by cases q⟩
  · exact ⟨_, d2.up E3, fun z q => by cases q⟩
  · exact ⟨_, d3.up E4, fun z q => by cases q⟩
  · exact ⟨_, d4.up eN, fun z q => by cases q⟩
end
end G

/-! # X13: the law holds -/
namespace G
open PySem PySem.Spec PyProof.Rows L2
/-- what repr tells of such a value -/
theorem BadV.shw {K : PySem.W.Frag} {H : Hp} {v : V} (h : BadV K H v) : ∃ d, Shw K H v d ∧ d.depth ≤ 8 ∧ d.shown.length ≤ 1000000 ∧ PyData.strOk d.shown = true ∧ (d = .dict [] ∧ (∃ a, v = .ref a ∧ H a = some (.dK [])) ∨ d ∈ bads ∧ Dp K H v d) := by
  rcases h with ⟨a, h1, h2⟩ | ⟨d, h1, h2⟩
  · exact ⟨.dict [], .inr ⟨rfl, a, h1, h2⟩, by decide, by decide +kernel, by decide +kernel, .inl ⟨rfl, a, h1, h2⟩⟩
  · have z := bads_ok d h1
    exact ⟨d, .inl ⟨h2, z.2.1, z.2.2.1⟩, z.2.2.2.1, bads_shown d h1, bads_sok d h1, .inr ⟨h1, h2⟩⟩
theorem Shw.upN {K : PySem.W.Frag} {H H' : Hp} {v : V} {d : PyData} (h : Shw K H v d) (e : LamX.ExtN H H') : Shw K H' v d := by
  rcases h with ⟨h1, h2⟩ | ⟨h1, a, h2, h3⟩
  · exact .inl ⟨dp_n e _ _ h1, h2⟩
  · exact .inr ⟨h1, a, h2, e _ _ h3 (fun _ z => by cases z)⟩
theorem shaped_sss {x y z : Str} (hx : PyData.strOk x = true) (hy : PyData.strOk y = true) (hz : PyData.strOk z = true) : SeqAt.shaped (.tuple [.str x, .str y, .str z]) = true := by
  unfold SeqAt.shaped
  simp [PyData.canLay0, PyData.canLayAll0, PyData.depth, PyData.depthAll, hx, hy, hz]
/-! the last calls -/
def lst0 : PyData := .list [.int 1, .list [.tuple [.int (-3), .int 2]], .list []]
def txt0 : Str := "(1, (-3/2,), ())"
def d12 : PyData := .tuple [.int 1, .int 2]
theorem lst0_ok : isPlain lst0 0 = true ∧ lens lst0 = true ∧ lst0.depth < 20 ∧ imm (asT lst0) = true ∧ (asT lst0).depth < 20 ∧ talks (asT lst0) = true ∧ lens (asT lst0) = true ∧ textV (asT lst0) = txt0 ∧ txt0.length ≤ 1000000 := by decide +kernel
theorem d12_ok : isPlain d12 0 = true ∧ lens d12 = true ∧ d12.depth < 20 ∧ imm (asT d12) = true ∧ (asT d12).depth < 20 ∧ talks (asT d12) = true ∧ lens (asT d12) = true ∧ textV (asT d12) = "1/2" := by decide +kernel
theorem tok12 : toks "(1, 2)" = (["(", "1", ",", "2", ")"] : List Str) := by
  have e : tl ("(1, 2)" : Str) = [40, 49, 44, 32, 50, 41] := by decide +kernel
  unfold toks
  rw [e]
  simp [tokL_cons, tokL_nil, isFig, isLet, List.takeWhile, List.dropWhile]
  decide +kernel
theorem all12 : pAll ["(", "1", ",", "2", ")"] 20 0 = some (.ok d12) := by kernel_rfl
def spLaw (K : PySem.W.Frag) (T : List (Addr × Str)) : Sp := fun vs H Q _ => ∃ (l : Addr) (ns : List Int), vs = [.ref l] ∧ SqL K H l (ns.map V.int) ∧ ns.length ≤ 100000 ∧ LamX.Tabs T H ∧ ∀ H', Q (.bl true) H'
end G

/-! # D20: value_text, handed an empty dict -/
namespace G
open PySem PySem.Spec PyProof.Rows L2
section
variable {X : Cx} {e : Expr} {σ : St} {H : Hp} {pos p q : Pos} {x : Str} {a : Addr}
/-- isinstance(x, T), x an empty dict -/
theorem vd_isiD (i : Nat) {T : Str} {n : String} {t : Bool} {j : Pos} (hm : X.mg "isinstance" = none) (hT : X.mg T = none) (hv : bootBuiltins T = some (.type n)) (h0 : σ[i]? = some (some (.ref a))) (hd : H a = some (.dK [])) (hk : kitB "dict" n = some t) (hN : X.N[i]? = some x := by rfl) (hvx : Vis X.env.scope x := by first | exact Or.inl rfl | exact Or.inr (Or.inl rfl) | exact Or.inr (Or.inr rfl))
    (h1 : (x == ("__debug__" : Str)) = false := by decide) (h2 : (x == ("__classdict__" : Str)) = false := by decide) (hg : Gl X "isinstance" := by rfl) (hgT : Gl X T := by rfl) (hnT : T ≠ "__name__" := by decide) (hdT : (T == ("__debug__" : Str)) = false := by decide)
    (he : starEach [.Name x q, .Name T j] X.env = (false, eval (.Name x q) X.env) :: starEach [.Name T j] X.env := by rfl) (he2 : starEach [.Name T j] X.env = (false, eval (.Name T j) X.env) :: starEach [] X.env := by rfl) (hpl : (backTo pos (starEach [.Name T j] X.env)).any (·.1) = false := by rfl) :
    VD X (.Call (.Name "isinstance" p) [.Name x q, .Name T j] [] pos) σ H (.bool t) := fun H1 e1 =>
  we_callB call_isi hm (by decide +kernel) (wa_cons (we_var i h0 (wa_cons (we_ty hT hv (wa_nil ⟨.ref a, .ty n, _, _, t, rfl, .ty n, .base (.dK (e1 _ _ hd)), kit_ty hk, Evl.Ex.refl H1, .bl t⟩) hgT hnT hdT) he2) hN hvx h1 h2) he) hg (by decide) (by decide) he hpl
/-- isinstance(x, (T, U)) -/
theorem vd_isi2D (i : Nat) {T U : Str} {n m : String} {t u : Bool} {j l tp : Pos} {z} (hm : X.mg "isinstance" = none) (hT : X.mg T = none) (hv : bootBuiltins T = some (.type n)) (hU : X.mg U = none) (hw : bootBuiltins U = some (.type m)) (h0 : σ[i]? = some (some (.ref a))) (hd : H a = some (.dK [])) (hk : kitB "dict" n = some t) (hl : kitB "dict" m = some u) (hN : X.N[i]? = some x := by rfl) (hvx : Vis X.env.scope x := by first | exact Or.inl rfl | exact Or.inr (Or.inl rfl) | exact Or.inr (Or.inr rfl))
    (h1 : (x == ("__debug__" : Str)) = false := by decide) (h2 : (x == ("__classdict__" : Str)) = false := by decide) (hg : Gl X "isinstance" := by rfl) (hgT : Gl X T := by rfl) (hnT : T ≠ "__name__" := by decide) (hdT : (T == ("__debug__" : Str)) = false := by decide) (hgU : Gl X U := by rfl) (hnU : U ≠ "__name__" := by decide) (hdU : (U == ("__debug__" : Str)) = false := by decide)
    (he : starEach [.Name x q, .Tuple [.Name T j, .Name U l] z tp] X.env = (false, eval (.Name x q) X.env) :: starEach [.Tuple [.Name T j, .Name U l] z tp] X.env := by rfl) (he2 : starEach [.Tuple [.Name T j, .Name U l] z tp] X.env = (false, eval (.Tuple [.Name T j, .Name U l] z tp) X.env) :: starEach [] X.env := by rfl) (hpl : (backTo pos (starEach [.Tuple [.Name T j, .Name U l] z tp] X.env)).any (·.1) = false := by rfl)
    (ht1 : starEach [.Name T j, .Name U l] X.env = (false, eval (.Name T j) X.env) :: starEach [.Name U l] X.env := by rfl) (ht2 : starEach [.Name U l] X.env = (false, eval (.Name U l) X.env) :: starEach [] X.env := by rfl) :
    VD X (.Call (.Name "isinstance" p) [.Name x q, .Tuple [.Name T j, .Name U l] z tp] [] pos) σ H (.bool (t || u)) := fun H1 e1 =>
  we_callB call_isiT hm (by decide +kernel) (wa_cons (we_var i h0 (wa_cons (.of (pe_tup WA.pa) (wa_cons (we_ty hT hv (wa_cons (we_ty hU hw (wa_nil ⟨by show 2 ≤ sizeLine; decide, fun tq hq => wa_nil
    ⟨.ref a, tq, [.ty n, .ty m], _, [.type n, .type m], t || u, rfl, upd_same, .cons (.ty n) (.cons (.ty m) .nil), .base (.dK ((Evl.Ex.new hq) _ _ (e1 _ _ hd))), kitAny_cons (kit_ty hk) (fun et => kitAny_cons (kit_ty hl) (fun eu => by rw [et, eu]; exact kitAny_nil) fun eu => by rw [et, eu]; rfl) (fun et => by rw [et]; rfl), Evl.Ex.new hq, .bl _⟩⟩) hgU hnU hdU) ht2) hgT hnT hdT) ht1)) he2) hN hvx h1 h2) he) hg (by decide) (by decide) he hpl
end
/-- a judge handed an empty dict says b -/
def spDct (b : Bool) : Sp := fun vs H Q _ => ∃ a, vs = [.ref a] ∧ H a = some (.dK []) ∧ ∀ H', Ex H H' → Q (.bl b) H'
def spDct2 (b : Bool) : Sp := fun vs H Q _ => ∃ a, vs = [.ref a, .int 0] ∧ H a = some (.dK []) ∧ ∀ H', Ex H H' → Q (.bl b) H'
def spVTD (CR : Addr) : Sp := fun vs H _ E => ∃ a, vs = [.ref a] ∧ H a = some (.dK []) ∧ ∀ dd H', Thrown H [("row", .ref a), ("what", .str "value")] dd H' → E (.ref CR) (some dd) H'
theorem kd_int : kitB "dict" "int" = some false := by decide +kernel
theorem kd_tuple : kitB "dict" "tuple" = some false := by decide +kernel
theorem kd_list : kitB "dict" "list" = some false := by decide +kernel
section
variable {X : Cx} {σ : St} {H : Hp} {p pos q : Pos} {x y : Str} {ps : List Str} {k : Nat} {a : Addr} {b : Bool}
/-- a call of such a judge -/
theorem vd_callDct (i : Nat) (F : Fd (Cxg X) x ps k (spDct b)) (hr : Room k X.A) (h0 : σ[i]? = some (some (.ref a))) (hd : H a = some (.dK [])) (hN : X.N[i]? = some y := by rfl) (hv : Vis X.env.scope y := by first | exact Or.inl rfl | exact Or.inr (Or.inl rfl) | exact Or.inr (Or.inr rfl))
    (h1 : (y == ("__debug__" : Str)) = false := by decide) (h2 : (y == ("__classdict__" : Str)) = false := by decide) (hg : Gl X x := by rfl) (hdb : (x == ("__debug__" : Str)) = false := by decide)
    (he : starEach [.Name y q] X.env = (false, eval (.Name y q) X.env) :: starEach [] X.env := by rfl) (hpl : (backTo pos (starEach [] X.env)).any (·.1) = false := by rfl) : VD X (.Call (.Name x p) [.Name y q] [] pos) σ H (.bool b) := fun H1 e1 =>
  we_call0 F hr (wa_cons (we_var i h0 (wa_nil ⟨a, rfl, e1 _ _ hd, fun H2 e2 => ⟨e2, .bl b⟩⟩) hN hv h1 h2) he) hg hdb he hpl
end
section
variable {g : Gd}
theorem dct_integer (T : Nm g.mg) (F : FT g "is_integer" s_is_integer) : Fd g "is_integer" ["value"] 1 (spDct false) := by
  obtain ⟨f, fd, F, hm⟩ := F
  refine fd_of F hm sc_is_integer (fun _ _ _ _ ⟨a, e, _⟩ => by rw [e] <;> rfl) (fun _ _ _ _ _ _ us hl => match us, hl with | [_], _ => rfl) (fun cdv A outer s H vs Q E hr h => ?_)
  obtain ⟨a, rfl, hd, k⟩ := h
  refine ws_retD (vd_and (u := false) (vd_isiD 0 T.isinstance T.int bt_int rfl hd kd_int) fun z => by cases z) fun v H1 e1 dv => ?_
  obtain rfl := dv.bl_v
  exact k H1 e1
theorem dct_ratio (T : Nm g.mg) (F : FT g "is_ratio" s_is_ratio) (GI : Fd g "is_integer" ["value"] 1 (spDct false)) : Fd g "is_ratio" ["value"] 2 (spDct false) := by
  obtain ⟨f, fd, F, hm⟩ := F
  refine fd_of F hm sc_is_ratio (fun _ _ _ _ ⟨a, e, _⟩ => by rw [e] <;> rfl) (fun _ _ _ _ _ _ us hl => match us, hl with | [_], _ => rfl) (fun cdv A outer s H vs Q E hr h => ?_)
  obtain ⟨a, rfl, hd, k⟩ := h
  refine ws_if (vt_not (vt_val (vd_isiD 0 T.isinstance T.tuple bt_tuple rfl hd kd_tuple))) (fun ht H1 e1 => ?_) (fun ht H1 e1 => by cases ht)
  refine ws_retD (vd_callDct 0 GI hr rfl (e1 _ _ hd)) fun v H2 e2 dv => ?_
  obtain rfl := dv.bl_v
  exact k H2 (Evl.Ex.trans e1 e2)
theorem dct_list (T : Nm g.mg) (F : FT g "is_list" s_is_list) : Fd g "is_list" ["value"] 1 (spDct false) := by
  obtain ⟨f, fd, F, hm⟩ := F
  refine fd_of F hm sc_is_list (fun _ _ _ _ ⟨a, e, _⟩ => by rw [e] <;> rfl) (fun _ _ _ _ _ _ us hl => match us, hl with | [_], _ => rfl) (fun cdv A outer s H vs Q E hr h => ?_)
  obtain ⟨a, rfl, hd, k⟩ := h
  refine ws_retD (vd_isi2D 0 T.isinstance T.list bt_list T.tuple bt_tuple rfl hd kd_list kd_tuple) fun v H1 e1 dv => ?_
  obtain rfl := dv.bl_v
  exact k H1 e1
theorem dct_plain (T : Nm g.mg) (F : FTD g "is_plain" s_is_plain [.int 0]) (GR : Fd g "is_ratio" ["value"] 2 (spDct false)) (GL : Fd g "is_list" ["value"] 1 (spDct false)) : Fd g "is_plain" ["value", "deep"] 3 (spDct2 false) [.int 0] := by
  obtain ⟨f, fd, F, hm⟩ := F
  obtain ⟨_, ds, r, b⟩ := bind_plain F
  refine ⟨f, fd, ds, F.ok sc_is_plain (fun _ _ _ _ ⟨a, e, _⟩ => by rw [e] <;> rfl) (fun cdv A outer s H vs Q E hr h => ⟨_, WS.ps, ?_⟩), hm, F.kp, r, b⟩
  obtain ⟨a, rfl, hd, k⟩ := h
  refine ws_if (vt_val (vd_callDct 0 GR hr rfl hd)) (fun ht H1 e1 => by cases ht) (fun ht H1 e1 => ws_nil ?_)
  refine ws_retD (vd_and (u := false) (vd_callDct 0 GL (hr.mono (by omega)) rfl (e1 _ _ hd)) fun z => by cases z) fun v H2 e2 dv => ?_
  obtain rfl := dv.bl_v
  exact k H2 (Evl.Ex.trans e1 e2)
theorem dct_value_text {CR : Addr} (F : FT g "value_text" s_value_text) (GP : Fd g "is_plain" ["value", "deep"] 3 (spDct2 false) [.int 0]) (TR : XC g.K g.mg "BadRow" CR) (IR : XI g CR ["self", "what", "row"] 1 (spInit2 CR "what" "row")) : Fd g "value_text" ["value"] 4 (spVTD CR) := by
  obtain ⟨f, fd, F, hm⟩ := F
  refine fd_of F hm sc_value_text (fun _ _ _ _ ⟨a, e, _⟩ => by rw [e] <;> rfl) (fun _ _ _ _ _ _ us hl => match us, hl with | [_], _ => rfl) (fun cdv A outer s H vs Q E hr h => ?_)
  obtain ⟨a, rfl, hd, k⟩ := h
  refine ws_if (t := true) (vt_not (t := false) (vt_val fun H1 e1 => we_call GP hr passL (wa_cons (we_var 0 rfl (wa_nil ⟨a, rfl, e1 _ _ hd, fun H2 e2 => ⟨e2, .bl false⟩⟩))))) (fun ht H1 e1 => ?_) (fun ht H1 e1 => by cases ht)
  refine ws_raise2 rfl TR IR (hr.mono (by omega)) takesE ((vd_str (s := "value")).use fun w H2 e2 dw => ?_)
  obtain rfl := dw.str_v
  exact we_var 0 rfl fun dd H3 _ hT => k dd H3 ⟨Evl.Ex.trans e1 (Evl.Ex.trans e2 hT.1), hT.2⟩
end
end G

/-! # X14: the law holds -/
namespace G
open PySem PySem.Spec PyProof.Rows L2
section
variable {g : Gd} {ca : Str → Addr} {c P : Addr} {T : List (Addr × Str)} {f : Addr} {A : Around} {outer : List Env} {s : Shared} {H : Hp} {E : XK} {D : Ends}
/-- what the law calls -/
structure LawF (g : Gd) (ca : Str → Addr) (T : List (Addr × Str)) : Prop where
  R : RightF g ca 20
  pen : Fd g "_law_pen" ["script"] 1 (spPen g.K)
  right : Fd g "_law_right" ["pen"] 40 (spRight T)
  rfault : Fd g "_law_read_fault" ["text"] 32 (spRF g.K T)
  vtd : Fd g "value_text" ["value"] 4 (spVTD (ca "BadRow"))
  kinds : FdE (fun A => A.guards = some []) g "_law_kinds" ["e"] 2 (spKind g.K ca "BadRow" (PPr g.K))
  fault : FT g "_law_fault" s__law_fault
/-- the last row: three calls that are told -/
theorem law_ret (nm : Nm g.mg) (L : LawF g ca T) (hr : Room 42 (A.deeper (envOfC "law" (defScope s_law) s.heap.objs.size f (.ref c)))) {σ : St} {H1 : Hp} (k : ∀ H', Ex H1 H' → D.rt (.bl true) H') : WS (cxL g f c A outer s H E) ((defBody s_law).drop 5) D σ H1 := by
  have R := L.R
  have hun : (cxL g f c A outer s H E).A.units + 64 < cLine := hr.units
  obtain ⟨a1, a2, a3, a4, a5, a6, a7, a8, a9⟩ := lst0_ok
  obtain ⟨b1, b2, b3, b4, b5, b6, b7, b8⟩ := d12_ok
  refine ws_retD (d := .bool true) ?_ fun v H2 e2 dv => by
    obtain rfl := dv.bl_v
    exact k H2 e2
  have vt : ∀ {d : PyData} {e : Expr} {σ : St} {H1 : Hp} {p1 p2 : Pos} {es : List Expr}, es = [e] → isPlain d 0 = true → lens d = true → d.depth < 20 → imm (asT d) = true → (asT d).depth < 20 → talks (asT d) = true → lens (asT d) = true → (textV (asT d)).length ≤ 1000000 → VD (cxL g f c A outer s H E) e σ H1 d → starEach [e] (cxL g f c A outer s H E).env = (false, eval e (cxL g f c A outer s H E).env) :: starEach [] (cxL g f c A outer s H E).env →
      (backTo p2 (starEach [] (cxL g f c A outer s H E).env)).any (·.1) = false → VD (cxL g f c A outer s H E) (.Call (.Name "value_text" p1) es [] p2) σ H1 (.str (textV (asT d))) := fun {d e σ H1 p1 p2 es} q h1 h2 h3 h4 h5 h6 h7 h8 hd hs hp H2 e2 => by
    subst q
    refine we_call0 R.vt (hr.mono (by omega)) (wa_cons ((hd.at_ e2).use fun v H3 e3 dv => wa_nil ⟨v, d, rfl, dv, h3, h2, ?_⟩) hs) rfl (by decide) hs hp
    rw [if_pos h1]
    exact ⟨h4, h5, h6, h7, h8, fun H4 e4 => ⟨Evl.Ex.trans e3 e4, .str _⟩⟩
  have isV : ∀ {p1 p3 : Pos} {e1 e2 : Expr} {σ : St} {H' : Hp} {dd : PyData}, tidy dd = true → dd.depth < 20 → lens dd = true → VD (cxL g f c A outer s H E) e1 σ H' dd → VD (cxL g f c A outer s H E) e2 σ H' dd →
      starEach [e1, e2] (cxL g f c A outer s H E).env = (false, eval e1 (cxL g f c A outer s H E).env) :: starEach [e2] (cxL g f c A outer s H E).env → starEach [e2] (cxL g f c A outer s H E).env = (false, eval e2 (cxL g f c A outer s H E).env) :: starEach [] (cxL g f c A outer s H E).env →
      (backTo p3 (starEach [e2] (cxL g f c A outer s H E).env)).any (·.1) = false → VD (cxL g f c A outer s H E) (.Call (.Name "_law_is" p1) [e1, e2] [] p3) σ H' (.bool true) := fun t1 t2 t3 h1 h2 q1 q2 q3 H4 e4 =>
    we_call0 R.is_ (hr.mono (by omega)) (wa_cons ((h1.at_ e4).use fun w1 H5 e5 d1 => wa_cons ((h2.at_ (Evl.Ex.trans e4 e5)).use fun w2 H6 e6 d2 => wa_nil ⟨w1, w2, _, rfl, d1.up e6, d2, t1, t2, t3, fun H7 e7 => ⟨Evl.Ex.trans e5 (Evl.Ex.trans e6 e7), .bl true⟩⟩) q2) q1) rfl (by decide) q1 q3
  refine VD.to (vd_and (t := true) (u := true && decide (textV (asT d12) = "1/2")) (isV (dd := .str txt0) rfl (by simp [PyData.depth]) rfl ?_ (vd_str (s := txt0)) rfl rfl rfl) fun _ => vd_and (t := true) (isV (dd := d12) rfl b3 b2 ?_ (vd_tup (va_int (va_int va_nil)) (by show 2 ≤ 100000; decide)) rfl rfl rfl) fun _ => vd_one (vd_eqS (vt (d := d12) rfl b1 b2 b3 b4 b5 b6 b7 (by rw [b8]; decide +kernel) (vd_tup (va_int (va_int va_nil)) (by show 2 ≤ 100000; decide)) rfl rfl) (vd_str (s := "1/2")))) (by rw [b8]; rfl)
  · refine (vt (d := lst0) rfl a1 a2 a3 a4 a5 a6 a7 (by rw [a8]; exact a9) ?_ rfl rfl).to (congrArg PyData.str a8)
    exact VL.vd (vl_lst (va_int (va_lst (VL.vd (vl_lst (va_tup (vd_tup (va_cons (vd_neg (vd_int (i := 3))) (va_int va_nil) se_un) (by show 2 ≤ 100000; decide)) va_nil) (by show 1 ≤ 100000; decide))) (va_lst (VL.vd (vl_lst va_nil (by show 0 ≤ 100000; decide))) va_nil))) (by show 3 ≤ 100000; decide))
  · exact fun H4 e4 => we_call0 R.ot (hr.mono (by omega)) (wa_cons ((vd_str (s := "(1, 2)")).use fun u H5 e5 du => wa_nil ⟨u, .str "(1, 2)", rfl, du, by decide +kernel, .ok d12, by rw [tok12]; exact all12, fun w H6 e6 dw => ⟨Evl.Ex.trans e5 e6, dw⟩⟩))
/-- the errors are told as they are due -/
theorem law_if (nm : Nm g.mg) (ex : EXs g.K g.mg ca) (L : LawF g ca T) (TB : LamX.TabB g.base g.mg c P) (hmT : (P, lamQ "law") ∈ T) (hu : ∀ p ∈ T, p.1 = P → p.2 = lamQ "law") (hg : A.guards = some []) (hr : Room 42 (A.deeper (envOfC "law" (defScope s_law) s.heap.objs.size f (.ref c)))) {v0 v1 v3 v4 : V} {o2 : Option V} {d4 : PyData} {H1 : Hp} (hT : LamX.Tabs T H1) (B : BadV g.K H1 v3) (D4 : Dp g.K H1 v4 d4) (n4 : ∀ z, d4 ≠ .str z)
    (k : ∀ H', D.rt (.bl true) H') : WS (cxL g f c A outer s H E) ((defBody s_law).drop 4) D [some v0, some v1, o2, some v3, some v4] H1 := by
  have hun : (cxL g f c A outer s H E).A.units + 64 < cLine := hr.units
  have hgd : (cxL g f c A outer s H E).A.guards = some [] := hg
  obtain ⟨d0, sh, dep, siz, sok, how⟩ := B.shw
  refine ws_ifW (wt_or (wt_cmp (op_neD hun) (nomark _) (we_fault (φ := fun A => A.guards = some []) (PP := PPr g.K) (k := 28) L.fault (by exact nm) (by exact ex) (x := "BadRow") (by decide +kernel) (fun d H t ⟨fs, _, _, _, h, _⟩ => ⟨fs, h⟩) (fun _ _ => hg) L.kinds TB rfl hmT hu (hr.mono (by omega)) (LamX.lamS_by (sc := defScope s_law) (by decide +kernel)) hT fun H5 e5 hT5 E2 Q2 hq he A' outer' s' H0 f' c' hr' => ?_)))
  have B5 := B.upN e5
  have fin : ∀ dd H', Thrown H5 [("row", v3), ("what", .str "value")] dd H' → E2 (.ref (ca "BadRow")) (some dd) H' := fun dd H' ht => he dd H' (.tuple [.str "row", .str "value", .str d0.shown]) ⟨_, "value", v3, d0, ht.2, rfl, rfl, (sh.upN e5).up ht.1, dep, siz, rfl⟩ fun w H7 e7 dw => by
    have eA : Ex H5 H7 := Evl.Ex.trans ht.1 e7
    have sh7 : Shw g.K H7 v3 d0 := (sh.upN e5).up eA
    have rp : ∀ {pr pb ppos : Pos}, VD (cxL g f c A outer s H E) (.Call (.Name "repr" pr) [.Name "bad" pb] [] ppos) [some v0, some v1, o2, some v3, some v4] H7 (.str d0.shown) := fun H9 e9 =>
      we_callB (call_reprD hgd hun) (by exact nm.repr) (by decide +kernel) (wa_cons (we_var 3 rfl (wa_nil ⟨v3, d0, rfl, sh7.up e9, dep, siz, Evl.Ex.refl H9, .str _⟩)))
    refine ne_same dw (vd_tup (va_str (va_str (va_cll rp va_nil))) (by show 3 ≤ 100000; decide)) (shaped_sss (by decide +kernel) (by decide +kernel) sok) fun H8 e8 => iteF ?_
    have eB : Ex H5 H8 := Evl.Ex.trans eA e8
    refine wt_cmp (op_neD hun) (nomark _) (we_call0 L.rfault (hr.mono (by omega)) (wa_cons (we_var 4 rfl (wa_nil ⟨v4, d4, rfl, (dp_n e5 _ _ D4).up eB, n4, hT5.ext eB, fun w2 H10 e10 hT10 dw2 => ?_⟩))))
    refine ne_same dw2 (vd_tup (va_str (va_int (va_int va_nil))) (by show 3 ≤ 100000; decide)) (shaped_sii (by decide +kernel)) fun H11 e11 => iteF (ws_nil ?_)
    exact law_ret nm L hr fun H12 _ => k H12
  rcases how with ⟨rfl, l, rfl, hl⟩ | ⟨hd, dp⟩
  · exact we_call L.vtd (hr'.mono (by omega)) passLam (wa_cons (we_var 3 rfl (wa_nil ⟨l, rfl, e5 _ _ hl (fun _ z => by cases z), fin⟩)))
  · refine we_call L.R.vt (hr'.mono (by omega)) passLam (wa_cons (we_var 3 rfl (wa_nil ⟨v3, d0, rfl, dp_n e5 _ _ dp, by omega, (bads_ok d0 hd).1, ?_⟩)))
    rw [if_neg (by rw [bads_none d0 hd]; exact Bool.false_ne_true)]
    exact fin
end
end G

/-! # X15: the law holds: all of it -/
namespace G
open PySem PySem.Spec PyProof.Rows L2
/-- all but dicts is as it was -/
def ExK (H H' : Hp) : Prop := ∀ b o, H b = some o → (∀ m, o ≠ .dK m) → H' b = some o
theorem ExB.toK {a lc : Addr} {H H' : Hp} (e : ExB a H H') (P : Pen a lc H) : ExK H H' := fun b o h n => by
  obtain ⟨i, dg, ct, fo, cells, I⟩ := P
  exact e b o (fun z => by rw [z, I.ob] at h; exact n _ (Option.some.inj h).symm) h
section
variable {K : PySem.W.Frag} {H H' : Hp}
mutual
theorem dp_k (e : ExK H H') : ∀ (d : PyData) (v : V), Dp K H v d → Dp K H' v d
  | .none, _, h => by cases h; exact .non
  | .bool _, _, h => by cases h; exact .bl _
  | .int _, _, h => by cases h; exact .int _
  | .str _, _, h => by cases h; exact .str _
  | .dict _, _, h => by cases h
  | .list ds, _, h => by
    cases h with
    | lst s a => exact .lst (by
        rcases s with (z | ⟨o, z⟩) | z
        · exact .inl (.inl (e _ _ z fun _ q => by cases q))
        · exact .inl (.inr ⟨o, e _ _ z fun _ q => by cases q⟩)
        · exact .inr z) (dps_k e ds _ a)
  | .tuple ds, _, h => by
    cases h with
    | tup s a => exact .tup (by
        rcases s with (z | ⟨o, z⟩) | z
        · exact .inl (.inl (e _ _ z fun _ q => by cases q))
        · exact .inl (.inr ⟨o, e _ _ z fun _ q => by cases q⟩)
        · exact .inr z) (dps_k e ds _ a)
theorem dps_k (e : ExK H H') : ∀ (ds : List PyData) (vs : List V), DpAll K H vs ds → DpAll K H' vs ds
  | [], _, h => by cases h; exact .nil
  | d :: ds, _, h => by
    cases h with
    | cons x y => exact .cons (dp_k e d _ x) (dps_k e ds _ y)
end
end
section
variable {g : Gd} {ca : Str → Addr} {c P : Addr} {T : List (Addr × Str)} {f : Addr} {A : Around} {outer : List Env} {s : Shared} {H : Hp} {E : XK} {D : Ends}
/-- two picks -/
theorem law_picks (nm : Nm g.mg) (L : LawF g ca T) (hr : Room 42 (A.deeper (envOfC "law" (defScope s_law) s.heap.objs.size f (.ref c)))) {a lc : Addr} {v0 : V} {o2 o3 o4 : Option V} {H1 : Hp} (PN : Pen a lc H1) (hT : LamX.Tabs T H1)
    (k : ∀ v3 v4 d4 H', LamX.Tabs T H' → BadV g.K H' v3 → Dp g.K H' v4 d4 → (∀ z, d4 ≠ .str z) → WS (cxL g f c A outer s H E) ((defBody s_law).drop 4) D [some v0, some (.ref a), o2, some v3, some v4] H') :
    WS (cxL g f c A outer s H E) ((defBody s_law).drop 2) D [some v0, some (.ref a), o2, o3, o4] H1 := by
  refine ws_set 3 sc_law.nd (we_call0 L.R.pick (hr.mono (by omega)) (wa_cons (we_var 1 rfl (wa_cons ?_))))
  refine we_bads nm ?_ ?_
  · rfl
  intro l vs H2 e2 hl hn hb
  refine wa_nil ⟨a, lc, l, vs, rfl, PN.up e2, hl, by omega, by omega, fun j v3 H3 hj P3 K3 => ?_⟩
  have W2 : Wd a lc T H1 H2 := ⟨PN.up e2, hT.ext e2, .ex e2⟩
  have W3 := W2.go P3 K3
  have b3 : BadV g.K H3 v3 := by
    rcases hb v3 (List.mem_of_getElem? hj) with ⟨q, rfl, hq⟩ | ⟨d, hd, dp⟩
    · exact .inl ⟨q, rfl, K3 _ _ (fun z => by
        obtain ⟨i, dg, ct, fo, cells, I⟩ := PN.up e2
        rw [z, I.ob] at hq
        cases hq) hq⟩
    · exact .inr ⟨d, hd, dp.upI (bads_ok d hd).2.2.2.2 (K3.toI_pen (PN.up e2))⟩
  refine ws_set 4 sc_law.nd (we_call0 L.R.pick (hr.mono (by omega)) (wa_cons (we_var 1 rfl (wa_cons ?_))))
  refine we_oddL ?_ ?_
  · rfl
  intro l2 us H4 e4 hl2 hn2 hb2
  refine wa_nil ⟨a, lc, l2, us, rfl, P3.up e4, hl2, by omega, by omega, fun j2 v4 H5 hj2 P5 K5 => ?_⟩
  obtain ⟨d4, D4, n4⟩ := hb2 v4 (List.mem_of_getElem? hj2)
  have W5 := (W3.ex e4).go P5 K5
  have b5 : BadV g.K H5 v3 := by
    rcases b3.up e4 with ⟨q, rfl, hq⟩ | ⟨d, hd, dp⟩
    · exact .inl ⟨q, rfl, K5 _ _ (fun z => by
        obtain ⟨i, dg, ct, fo, cells, I⟩ := P3.up e4
        rw [z, I.ob] at hq
        cases hq) hq⟩
    · exact .inr ⟨d, hd, dp_k (K5.toK (P3.up e4)) _ _ dp⟩
  exact k v3 v4 d4 H5 W5.tab b5 (dp_k (K5.toK (P3.up e4)) _ _ D4) n4
theorem ok_law (nm : Nm g.mg) (ex : EXs g.K g.mg ca) (L : LawF g ca T) (F : FTC g "law" s_law c) (TB : LamX.TabB g.base g.mg c P) (hmT : (P, lamQ "law") ∈ T) (hu : ∀ p ∈ T, p.1 = P → p.2 = lamQ "law") : FdG g "law" ["script"] 43 (spLaw g.K T) := by
  refine fdgc_of F sc_law (fun _ _ _ _ ⟨l, ns, e, _⟩ => by rw [e] <;> rfl) (fun _ _ _ _ _ _ us hl => match us, hl with | [_], _ => rfl) (fun f A outer s H vs Q E hg hr h => ?_)
  obtain ⟨l, ns, rfl, hl, hlen, hT, k⟩ := h
  refine ws_set 1 sc_law.nd (we_call0 L.pen (hr.mono (by omega)) (wa_cons (we_var 0 rfl (wa_nil ⟨l, ns, rfl, hl, hlen, fun a lc H1 PN e1 _ => ?_⟩))))
  refine ws_forR (n := 8) 2 (fun _ σ H' => ∃ o2 o3 o4, σ = [some (.ref l), some (.ref a), o2, o3, o4] ∧ Pen a lc H' ∧ LamX.Tabs T H') passO rfl sc_law.nd nm.range (vd_int.use fun w H2 e2 dw => ⟨dw.int_v, _, _, _, rfl, PN.up e2, (hT.ext e1).ext e2⟩) (by decide) ?_ ?_
  · rintro t σ H2 ht ⟨o2, o3, o4, rfl, P2, T2⟩
    exact ws_ifW (wt_not (wt_val (we_call0 L.right (hr.mono (by omega)) (wa_cons (we_var 1 rfl (wa_nil ⟨a, lc, rfl, P2, T2, fun H3 W3 => ⟨true, rfl, iteF (ws_nil (ws_nil ⟨_, _, _, rfl, W3.pen, W3.tab⟩))⟩⟩))))))
  · rintro σ H2 ⟨o2, o3, o4, rfl, P2, T2⟩
    exact law_picks nm L hr P2 T2 fun v3 v4 d4 H3 T3 b3 D3 n3 => law_if nm ex L TB hmT hu hg hr T3 b3 D3 n3 k
end
end G

/-! # E1: the law is called: by a promise that holds where nothing is being shown -/
namespace G
open PySem PySem.Spec PyProof.Rows L2
/-- an empty table of code objects; the script's object -/
def tabO : Obj := { cls := .none, data := .fields #[] }
def scrO (us : List Value) : Obj := { cls := .type "list", data := .seq us.toArray }
/-- what stands as the law is called: cl tells the code objects and their tables, a is the script -/
structure AtCall (K : PySem.W.Frag) (mg : Str → Option Value) (cl : List (Addr × Addr)) (a : Addr) (us : List Value) (ns : List Int) (h : Heap) : Prop where
  kin : K.In h
  glob : h.Ns mainGlobals mg
  blt : ∃ m, h.Ns builtinsNs m ∧ ∀ x : Str, x ≠ "__name__" → m x = bootBuiltins x
  lim : h.NoLimit
  tab : ∀ p ∈ cl, h.get? p.2 = some tabO
  out : ∀ p ∈ cl, K.lookup p.2 = none
  cod : ∀ p ∈ cl, PySem.W.codeHdIn K p.1 p.2 = true
  bm : ∃ (bm : Addr) (o : Obj), mg "__builtins__" = some (.ref bm) ∧ bm ≠ builtinsNs ∧ h.get? bm = some o ∧ o.cls = .type "module" ∧ o.dict = some builtinsNs ∧ o.data = .plain
  scr : h.get? a = some (scrO us)
  nums : IntsAre us ns
  few : ns.length ≤ sizeLine
def isTb (cl : List (Addr × Addr)) (b : Addr) : Bool := cl.any fun p => p.2 == b
theorem isTb_of {cl : List (Addr × Addr)} {p : Addr × Addr} (h : p ∈ cl) : isTb cl p.2 = true := List.any_eq_true.mpr ⟨p, h, beq_self_eq_true _⟩
theorem isTb_ex {cl : List (Addr × Addr)} {b : Addr} (h : isTb cl b = true) : ∃ p ∈ cl, p.2 = b := by
  obtain ⟨p, hp, e⟩ := List.any_eq_true.mp h
  exact ⟨p, hp, beq_iff_eq.mp e⟩
/-- what is tracked from the start: the tables, and the script unless it is known for good -/
def hp0 (K : PySem.W.Frag) (cl : List (Addr × Addr)) (a : Addr) (us : List Value) (ns : List Int) : Hp := fun b =>
  if isTb cl b = true then some (.tbl #[]) else if b = a ∧ (K.lookup a).isNone = true then some (.frz (scrO us) (.lst (ns.map V.int))) else none
section
variable {P : Program} {w : World} {K : PySem.W.Frag} {mg : Str → Option Value} {cl : List (Addr × Addr)} {a : Addr} {us : List Value} {ns : List Int} {h : Heap}
theorem AtCall.which (S : AtCall K mg cl a us ns h) (b : Addr) : (hp0 K cl a us ns b = none) ∨ (hp0 K cl a us ns b = some (.tbl #[]) ∧ h.get? b = some tabO ∧ K.lookup b = none) ∨ (hp0 K cl a us ns b = some (.frz (scrO us) (.lst (ns.map V.int))) ∧ b = a ∧ K.lookup b = none) := by
  unfold hp0
  by_cases q : isTb cl b = true
  · obtain ⟨p, hp, rfl⟩ := isTb_ex q
    exact .inr (.inl ⟨if_pos q, S.tab p hp, S.out p hp⟩)
  · rw [if_neg q]
    by_cases r : b = a ∧ (K.lookup a).isNone = true
    · exact .inr (.inr ⟨if_pos r, r.1, by rw [r.1]; exact Option.isNone_iff_eq_none.mp r.2⟩)
    · exact .inl (if_neg r)
theorem AtCall.atTab (S : AtCall K mg cl a us ns h) {p : Addr × Addr} (hp : p ∈ cl) : hp0 K cl a us ns p.2 = some (.tbl #[]) := if_pos (isTb_of hp)
/-- neither an empty table nor a list: it is not tracked -/
theorem AtCall.loose (S : AtCall K mg cl a us ns h) {b : Addr} {o : Obj} (e : h.get? b = some o) (n1 : o.data ≠ .fields #[]) (n2 : ∀ v n, o.data ≠ .seq v n) : hp0 K cl a us ns b = none := by
  rcases S.which b with q | ⟨_, q, _⟩ | ⟨_, q, _⟩
  · exact q
  · rw [e] at q
    exact absurd (congrArg Obj.data (Option.some.inj q)) n1
  · rw [q, S.scr] at e
    exact absurd (congrArg Obj.data (Option.some.inj e)).symm (n2 _ _)
theorem AtCall.known (S : AtCall K mg cl a us ns h) {b : Addr} {o : Obj} (e : K.lookup b = some o) : hp0 K cl a us ns b = none := by
  rcases S.which b with q | ⟨_, _, q⟩ | ⟨_, _, q⟩
  · exact q
  · rw [q] at e; cases e
  · rw [q] at e; cases e
theorem AtCall.nsB (S : AtCall K mg cl a us ns h) {b : Addr} {m : Str → Option Value} (z : h.Ns b m) : (hidT h (hp0 K cl a us ns)).Ns b m := by
  obtain ⟨o, es, ep, e, d, r⟩ := z
  exact ⟨o, es, ep, hidT_get e (S.loose e (by rw [d]; intro q; cases q) (by rw [d]; intro v n q; cases q)), d, r⟩
theorem AtCall.kinB (S : AtCall K mg cl a us ns h) : K.In (hidT h (hp0 K cl a us ns)) := fun b o e => hidT_get (S.kin b o e) (S.known e)
theorem AtCall.mod (S : AtCall K mg cl a us ns h) : L2.Mod K mg (hidT h (hp0 K cl a us ns)) := by
  obtain ⟨mb, h1, h2⟩ := S.blt
  obtain ⟨mc, h3, h4⟩ := S.lim
  exact ⟨S.kinB, S.nsB S.glob, ⟨mb, S.nsB h1, h2⟩, ⟨mc, S.nsB h3, h4⟩⟩
theorem AtCall.noGl (S : AtCall K mg cl a us ns h) {p : Addr × Addr} (hp : p ∈ cl) : mainGlobals ≠ p.2 := fun q => by
  obtain ⟨o, es, ep, e, d, _⟩ := S.glob
  rw [q, S.tab p hp] at e
  cases e
  cases d
theorem AtCall.tb (S : AtCall K mg cl a us ns h) {p : Addr × Addr} (hp : p ∈ cl) : LamX.TabB (hidT h (hp0 K cl a us ns)) mg p.1 p.2 := by
  refine ⟨PySem.W.codeHd_of_K S.kinB (S.cod p hp), ?_, S.noGl hp⟩
  obtain ⟨bm, o, b1, b2, b3, b4, b5, b6⟩ := S.bm
  refine ⟨bm, o, b1, b2, fun q => ?_, fun q => ?_, hidT_get b3 (S.loose b3 (by rw [b6]; intro z; cases z) (by rw [b6]; intro v n z; cases z)), b4, b5, b6⟩
  · obtain ⟨u, es, ep, e, d, _⟩ := S.glob
    rw [← q, b3] at e
    cases e
    rw [b6] at d
    cases d
  · rw [q, S.tab p hp] at b3
    cases b3
    cases b6
theorem AtCall.hok (S : AtCall K mg cl a us ns h) : HOk P w (hp0 K cl a us ns) h := fun b o e => by
  rcases S.which b with q | ⟨q, t, _⟩ | ⟨q, rfl, _⟩
  · rw [q] at e; cases e
  · rw [q] at e; cases e
    exact t
  · rw [q] at e; cases e
    exact ⟨S.scr, by rw [List.length_map]; exact S.few, us, _, vals_ints S.nums, S.scr⟩
theorem AtCall.script (S : AtCall K mg cl a us ns h) : SqL K (hp0 K cl a us ns) a (ns.map V.int) := by
  rcases S.which a with q | ⟨_, t, _⟩ | ⟨q, _, _⟩
  · cases e : K.lookup a with
    | some o =>
      obtain rfl : o = scrO us := Option.some.inj ((S.kin a o e).symm.trans S.scr)
      exact .inr ⟨_, us.toArray, _, e, rfl, rfl, rfl, by rw [List.size_toArray, S.nums.length]; exact S.few, by simpa using vals_ints S.nums⟩
    | none =>
      unfold hp0 at q
      by_cases z : isTb cl a = true
      · rw [if_pos z] at q; cases q
      · rw [if_neg z, if_pos ⟨rfl, by rw [e]; rfl⟩] at q; cases q
  · rw [S.scr] at t
    cases t
  · exact .inl (.inr ⟨_, q⟩)
/-- behind the call: all old objects stand, but for what the tables got -/
theorem AtCall.old (S : AtCall K mg cl a us ns h) {H' : Hp} {h' : Heap} (un : Un (frs []) [] (hp0 K cl a us ns) H' h h') (ok : HOk P w H' h') : OldK h h' := by
  have each : ∀ b o, h.get? b = some o → h'.get? b = some o ∨ (∃ p ∈ cl, p.2 = b ∧ o = tabO ∧ ∃ more : Array Value, h'.get? b = some { cls := .none, data := .fields (#[] ++ more) }) := fun b o e => by
    by_cases t : isTb cl b = true
    · obtain ⟨p, hp, rfl⟩ := isTb_ex t
      obtain ⟨more, m⟩ := un.tbls p.2 #[] (S.atTab hp)
      exact .inr ⟨p, hp, rfl, Option.some.inj (e.symm.trans (S.tab p hp)), more, ok p.2 _ m⟩
    · refine .inl ?_
      rcases S.which b with q | ⟨q, _, _⟩ | ⟨q, rfl, _⟩
      · exact un.keep b o e q (fun z => nomatch z) (fun z => nomatch z)
      · unfold hp0 at q
        rw [if_neg t] at q
        split at q <;> cases q
      · obtain ⟨e2, _⟩ := ok b _ (un.frzs b _ _ q)
        rw [S.scr] at e
        cases e
        exact e2
  refine ⟨fun b o e => ?_, fun b o e => ?_⟩
  · rcases each b o e with q | ⟨p, hp, rfl, rfl, more, q⟩
    · exact .inl q
    · exact .inr (.inl ⟨((PySem.W.codeHd_of_K S.kin (S.cod p hp)).tab (S.tab p hp)).isCodeTable, rfl, #[], more, rfl, q⟩)
  · rcases each b o e with q | ⟨_, _, _, _, more, q⟩
    · exact ⟨o, q⟩
    · exact ⟨_, q⟩
theorem run_lawG {k : Nat} {fa : Addr} {x y : Str} {sp : Sp} {s1 : Shared} (S : AtCall K mg cl a us ns s1.heap) (hg : s1.gens = #[]) (hr : Room k callerA) (hfa : mg x = some (.ref fa))
    (F : ∀ base : Heap, K.In base → base.Ns mainGlobals mg → (∀ p ∈ cl, LamX.TabB base mg p.1 p.2) → FdG ⟨P, w, K, mg, base⟩ x [y] k sp)
    (hsp : ∀ H : Hp, (∀ p ∈ cl, H p.2 = some (.tbl #[])) → SqL K H a (ns.map V.int) → sp [.ref a] H (fun v _ => v = .bl true) fun _ _ _ => False) :
    codeAny (model P w) callerA (.call (.ref fa) ⟨[.ref a], []⟩) (fun r s' => r = .ok (.ret (.bool true)) ∧ OldK s1.heap s'.heap ∧ s'.os = s1.os ∧ AllBare s'.gens) s1 := by
  have e0 : Env0 P w K mg (hidT s1.heap (hp0 K cl a us ns)) callerA [] s1 (hp0 K cl a us ns) := ⟨rfl, S.mod, fun b o e => of_hidT e, Nat.le_of_eq (hidT_size _ _), trivial, fun b z => (nomatch z), S.hok, .of_eq hg⟩
  obtain ⟨f, fd, ok, hm, _, hb⟩ := F _ S.kinB (S.nsB S.glob) fun p hp => S.tb hp
  obtain rfl : fa = f := by
    have z : mg x = some (.ref f) := hm
    rw [hfa] at z
    cases z
    rfl
  have b := hb s1 [.ref a] S.kin rfl
  rw [List.append_nil] at b
  have go := ok.run callerA [] s1 _ ⟨[.ref a], []⟩ [.ref a] [.ref a] _ _ rfl hr e0 b (.cons rfl .nil) (hsp _ (fun p hp => S.atTab hp) S.script)
  refine codeAny_mono go fun r s' z => ?_
  cases r with
  | error e =>
    obtain ⟨_, _, _, _, _, _, _, _, _, _, _, _, q⟩ := z
    exact q.elim
  | ok fl =>
    cases fl with
    | ret u =>
      obtain ⟨v, H', os, bare, un, okH, rv, q⟩ := z
      obtain rfl : v = .bl true := q
      obtain rfl : u = Value.bool true := rv
      exact ⟨rfl, S.old un okH, os, bare⟩
    | _ => exact False.elim z
end
end G

/-! # E2: what the head says, def by def -/
namespace G
open PySem PySem.Spec PyProof.Rows L2
theorem oex_of {K : PySem.W.Frag} {C : Addr} (h : oexB K C = true) (sa : PySem.W.findIn K (.ref C) "__setattr__" = some (some (.builtin "object.__setattr__"))) (be : PySem.W.subIn K (.ref C) (.type "BaseException") = some true) (ty : PySem.W.typeIn K (.ref C) = some (.type "type")) (kp : PySem.W.keepIn K (.ref C) = true) : OexC K C := by
  refine ⟨?_, sa, be, ty, kp⟩
  unfold oexB at h
  split at h
  · rename_i dd cd sl hk
    split at h
    · rename_i C' bm k0 k1 k2 k3 n k5 hm hs
      simp only [Bool.and_eq_true, Bool.not_eq_true', beq_iff_eq] at h
      obtain ⟨rfl, rfl, h3, h4, h5⟩ := h
      obtain ⟨nm, bs, mro, N, q, hdct, sn, sub, ab, col, hdel⟩ := cd
      simp only at hm h3 h4
      subst hm h3 h4
      refine ⟨nm, q, N, bs, bm, sn, sub, ab, col, dd, k0, k1, k2, k3, k5, ?_, h5⟩
      rw [hk]
      have e : sl = #[k0, k1, k2, k3, some (.builtin "ValueError.__new__"), k5] := by
        rw [← Array.toArray_toList (xs := sl), hs]
      rw [e]
    · cases h
  · cases h
section
variable {P : Program} {w : World} {K : PySem.W.Frag} {mg : Str → Option Value} {base h : Heap}
abbrev HSays (w : World) (h : Heap) (K : PySem.W.Frag) : Prop := He.SaysX fal fnl [] tfl exl w h K
theorem fa_of (c : HSays w h K) (j : Nat) {f : He.Fa} (e : fal[j]? = some f) : f.ok K = true := c.t.d.fact j e
theorem ft_of (X : K.In h) (Gm : h.Ns mainGlobals mg) (c : HSays w h K) (i j : Nat) {x : Str} {st : Stmt} (hd : fnl[i]? = some ⟨(x, none), x, x, defArgs st, defBody st, defScope st, [], []⟩) (hf : fal[j]? = some (.glo x)) : FT ⟨P, w, K, mg, base⟩ x st := by
  obtain ⟨fd, F⟩ := c.t.d.def_ i hd
  exact ⟨He.ga K x, fd, F, He.glo_ok X Gm (fa_of c j hf)⟩
theorem ftd_of (X : K.In h) (Gm : h.Ns mainGlobals mg) (c : HSays w h K) (i j : Nat) {x : Str} {st : Stmt} (hd : fnl[i]? = some ⟨(x, none), x, x, defArgs st, defBody st, defScope st, [.int 0], []⟩) (hf : fal[j]? = some (.glo x)) : FTD ⟨P, w, K, mg, base⟩ x st [.int 0] := by
  obtain ⟨fd, F⟩ := c.t.d.def_ i hd
  exact ⟨He.ga K x, fd, F, He.glo_ok X Gm (fa_of c j hf)⟩
/-- .. of a def that makes a lambda: its code object -/
theorem ftc_of (X : K.In h) (Gm : h.Ns mainGlobals mg) (c : HSays w h K) (i j : Nat) {x : Str} {st : Stmt} (hd : fnl[i]? = some ⟨(x, none), x, x, defArgs st, defBody st, defScope st, [], []⟩) (hf : fal[j]? = some (.glo x)) : FTC ⟨P, w, K, mg, base⟩ x st (He.codeOf K (x, none)) := by
  obtain ⟨fd, F⟩ := c.t.d.def_ i hd
  refine ⟨He.ga K x, fd, F, He.glo_ok X Gm (fa_of c j hf), ?_⟩
  obtain ⟨oc, od, dV, kV, doc, pm, an, cdv, ct, osl, rfl, lk, hcd, _, _⟩ := F.ex
  obtain ⟨cc, rfl⟩ := He.codeIn_ref hcd
  have e : He.codeOf K (x, none) = cc := He.codeOf_eq (p := (x, none)) lk rfl
  rw [e]
/-- a method of the class at x -/
theorem mt_of (c : HSays w h K) (i j : Nat) {x m q : Str} {st : Stmt} (hd : fnl[i]? = some ⟨(x, some m), m, q, defArgs st, defBody st, defScope st, [], []⟩) (hf : fal[j]? = some (.meth x m)) : MT ⟨P, w, K, mg, base⟩ (He.ga K x) m q st := by
  obtain ⟨fd, F⟩ := c.t.d.def_ i hd
  exact ⟨_, fd, F, He.meth_ok (fa_of c j hf)⟩
theorem mti_of (c : HSays w h K) (i j : Nat) {x q : Str} {st : Stmt} (hd : fnl[i]? = some ⟨(x, some "__init__"), "__init__", q, defArgs st, defBody st, defScope st, [], []⟩) (hf : fal[j]? = some (.mkr x)) : MT ⟨P, w, K, mg, base⟩ (He.ga K x) "__init__" q st := by
  obtain ⟨fd, F⟩ := c.t.d.def_ i hd
  have M := He.mkr_ok (fa_of c j hf)
  exact ⟨_, fd, F, M.init, M.fn, F.kp⟩
theorem ba {a b : Bool} (h : (a && b) = true) : a = true ∧ b = true := Bool.and_eq_true_iff.mp h
theorem nm_of (X : K.In h) (Gm : h.Ns mainGlobals mg) (c : HSays w h K) : Nm mg := by
  obtain ⟨_, e⟩ := ba c.more
  obtain ⟨_, e⟩ := ba e
  obtain ⟨_, e⟩ := ba e
  obtain ⟨e, _⟩ := ba e
  have gc : PySem.W.nsIn K mainGlobals "gcd" = some (some (.builtin "math.gcd")) := of_decide_eq_true e
  have fr : ∀ (j : Nat) {x : Str}, fal[j]? = some (.free x) → mg x = none := fun j x e => He.free_ok X Gm (fa_of c j e)
  exact ⟨fr 69 rfl, fr 68 rfl, fr 67 rfl, fr 65 rfl, fr 73 rfl, fr 74 rfl, fr 70 rfl, fr 63 rfl, fr 64 rfl, fr 71 rfl, fr 66 rfl, fr 72 rfl, fr 62 rfl, PySem.W.mg_of X Gm gc, He.str_ok X Gm (fa_of c 75 rfl), He.str_ok X Gm (fa_of c 76 rfl), He.int_ok X Gm (fa_of c 77 rfl), He.int_ok X Gm (fa_of c 78 rfl)⟩
end
end G

/-! # E3: the law's promise out of what the head says -/
namespace G
open PySem PySem.Spec PyProof.Rows L2
section
variable {P : Program} {w : World} {K : PySem.W.Frag} {mg : Str → Option Value} {base h : Heap}
theorem exs_of (X : K.In h) (Gm : h.Ns mainGlobals mg) (c : HSays w h K) : EXs K mg (He.ga K) := by
  obtain ⟨_, e⟩ := ba c.more
  obtain ⟨h1, e⟩ := ba e
  obtain ⟨h2, e⟩ := ba e
  obtain ⟨_, e⟩ := ba e
  obtain ⟨_, e⟩ := ba e
  obtain ⟨h4, h5⟩ := ba e
  obtain ⟨c1, c2⟩ := ba h2
  have mem : ∀ x ∈ exNames, ∃ p ∈ excN, p.1 = x := fun x hx => by
    obtain ⟨p, hp, e⟩ := List.mem_map.mp hx
    exact ⟨p, hp, e⟩
  have each : ∀ p ∈ excN, OexC K (He.ga K p.1) ∧ ExcC K (He.ga K p.1) ∧ ∀ f ∈ p.2, PySem.W.findIn K (.ref (He.ga K p.1)) f = some none := fun p hp => by
    have z := List.all_eq_true.mp h1 p hp
    unfold exB at z
    obtain ⟨z1, z⟩ := ba z
    obtain ⟨z2, z⟩ := ba z
    obtain ⟨z3, z⟩ := ba z
    obtain ⟨z4, z⟩ := ba z
    obtain ⟨z5, z⟩ := ba z
    obtain ⟨z6, z⟩ := ba z
    obtain ⟨z7, z⟩ := ba z
    obtain ⟨z8, z⟩ := ba z
    obtain ⟨z9, z⟩ := ba z
    obtain ⟨z10, z11⟩ := ba z
    exact ⟨oex_of z1 (He.eqO_ok z2) (of_decide_eq_true z3) (of_decide_eq_true z4) z5, ⟨He.eqO_ok z6, He.eqO_ok z7, of_decide_eq_true z3, z8, He.eqO_ok z9, He.eqO_ok c1, of_decide_eq_true c2, of_decide_eq_true z10⟩, fun f hf => He.eqO_ok (List.all_eq_true.mp z11 f hf)⟩
  refine ⟨fun x hx => ?_, fun x hx y hy => ?_, fun x hx => ?_, fun x hx => ?_, fun p hp f hf => (each p hp).2.2 f hf⟩
  · obtain ⟨p, hp, rfl⟩ := mem x hx
    refine ⟨?_, (each p hp).2.1, (each p hp).1⟩
    have hg : ∃ j : Nat, fal[j]? = some (He.Fa.glo p.1) := by
      have q : (excN.all fun p => fal.any fun (f : He.Fa) => match f with | He.Fa.glo x => x == p.1 | _ => false) = true := by decide +kernel
      obtain ⟨f, hf, e⟩ := List.any_eq_true.mp (List.all_eq_true.mp q p hp)
      cases f with
      | glo x =>
        have e2 : x = p.1 := beq_iff_eq.mp e
        obtain ⟨j, hj, ej⟩ := List.mem_iff_getElem.mp hf
        exact ⟨j, by rw [List.getElem?_eq_getElem hj, ej, e2]⟩
      | _ => cases e
    obtain ⟨j, hj⟩ := hg
    exact He.glo_ok X Gm (fa_of c j hj)
  · obtain ⟨p, hp, rfl⟩ := mem x hx
    obtain ⟨q, hq, rfl⟩ := mem y hy
    exact of_decide_eq_true (List.all_eq_true.mp (List.all_eq_true.mp h4 p hp) q hq)
  · obtain ⟨p, hp, rfl⟩ := mem x hx
    exact of_decide_eq_true (ba (List.all_eq_true.mp h5 p hp)).1
  · obtain ⟨p, hp, rfl⟩ := mem x hx
    exact of_decide_eq_true (ba (List.all_eq_true.mp h5 p hp)).2
/-- the __init__ of an error -/
theorem ini_of (c : HSays w h K) (i : Nat) {x q : Str} {st : Stmt} (hd : fnl[i]? = some ⟨(x, some "__init__"), "__init__", q, defArgs st, defBody st, defScope st, [], []⟩) (k : Nat) {fs : List Str} (hk : excN[k]? = some (x, fs)) (hf : fs.isEmpty = false) : FTM ⟨P, w, K, mg, base⟩ (He.ga K x) "__init__" q st := by
  obtain ⟨fd, F⟩ := c.t.d.def_ i hd
  obtain ⟨_, e⟩ := ba c.more
  obtain ⟨_, e⟩ := ba e
  obtain ⟨_, e⟩ := ba e
  obtain ⟨_, e⟩ := ba e
  obtain ⟨e, _⟩ := ba e
  have z := List.all_eq_true.mp e _ (List.mem_of_getElem? hk)
  have z2 : (fs.isEmpty || exInit K x) = true := z
  rw [hf, Bool.false_or] at z2
  obtain ⟨z3, z4⟩ := ba z2
  exact ⟨_, fd, F, He.eqO_ok z3, of_decide_eq_true z4⟩
/-- the tables of the defs that make lambdas, and the texts that their code objects bear -/
def tabT (K : PySem.W.Frag) : List (Addr × Str) := [((He.cT K ("_law_right", none)).2, lamQ "_law_right"), ((He.cT K ("_law_read_fault", none)).2, lamQ "_law_read_fault"), ((He.cT K ("law", none)).2, lamQ "law")]
theorem nodup_inj {α β : Type} {f : α → β} : ∀ {l : List α}, (l.map f).Nodup → ∀ p ∈ l, ∀ q ∈ l, f p = f q → p = q
  | [], _, p, hp, _, _, _ => nomatch hp
  | x :: xs, nd, p, hp, q, hq, e => by
    obtain ⟨nx, nd2⟩ := List.nodup_cons.mp (show (f x :: xs.map f).Nodup from nd)
    rcases List.mem_cons.mp hp with rfl | hp2
    · rcases List.mem_cons.mp hq with rfl | hq2
      · rfl
      · exact absurd (List.mem_map.mpr ⟨q, hq2, e.symm⟩) nx
    · rcases List.mem_cons.mp hq with rfl | hq2
      · exact absurd (List.mem_map.mpr ⟨p, hp2, e⟩) nx
      · exact nodup_inj nd2 p hp2 q hq2 e
theorem tab_one (c : HSays w h K) {p q : Addr × Str} (hp : p ∈ tabT K) (hq : q ∈ tabT K) (e : p.1 = q.1) : p.2 = q.2 := by
  have nd : ((tabT K).map (·.1)).Nodup := of_decide_eq_true (ba c.more).1
  rw [nodup_inj nd p hp q hq e]
theorem law_of (X : K.In h) (Gm : h.Ns mainGlobals mg) (c : HSays w h K) (TB : ∀ p ∈ tfl, LamX.TabB base mg (He.cT K p).1 (He.cT K p).2) : FdG ⟨P, w, K, mg, base⟩ "law" ["script"] 43 (spLaw K (tabT K)) := by
  have nm : Nm mg := nm_of X Gm c
  have ex : EXs K mg (He.ga K) := exs_of X Gm c
  have f_is_integer : FT ⟨P, w, K, mg, base⟩ "is_integer" s_is_integer := ft_of X Gm c 1 1 rfl rfl
  have f_is_ratio : FT ⟨P, w, K, mg, base⟩ "is_ratio" s_is_ratio := ft_of X Gm c 2 2 rfl rfl
  have f_pair : FT ⟨P, w, K, mg, base⟩ "pair" s_pair := ft_of X Gm c 3 3 rfl rfl
  have f_opposite : FT ⟨P, w, K, mg, base⟩ "opposite" s_opposite := ft_of X Gm c 4 4 rfl rfl
  have f_sign_of : FT ⟨P, w, K, mg, base⟩ "sign_of" s_sign_of := ft_of X Gm c 5 5 rfl rfl
  have f_as_tuples : FT ⟨P, w, K, mg, base⟩ "as_tuples" s_as_tuples := ft_of X Gm c 6 6 rfl rfl
  have f_is_list : FT ⟨P, w, K, mg, base⟩ "is_list" s_is_list := ft_of X Gm c 7 7 rfl rfl
  have f_run_of : FT ⟨P, w, K, mg, base⟩ "run_of" s_run_of := ft_of X Gm c 8 8 rfl rfl
  have f_tokens_of : FT ⟨P, w, K, mg, base⟩ "tokens_of" s_tokens_of := ft_of X Gm c 9 9 rfl rfl
  have f_is_numeral : FT ⟨P, w, K, mg, base⟩ "is_numeral" s_is_numeral := ft_of X Gm c 10 10 rfl rfl
  have f_is_small : FT ⟨P, w, K, mg, base⟩ "is_small" s_is_small := ft_of X Gm c 11 11 rfl rfl
  have f_ratio_text : FT ⟨P, w, K, mg, base⟩ "ratio_text" s_ratio_text := ft_of X Gm c 13 13 rfl rfl
  have f_text_of_value : FT ⟨P, w, K, mg, base⟩ "text_of_value" s_text_of_value := ft_of X Gm c 14 14 rfl rfl
  have f_value_text : FT ⟨P, w, K, mg, base⟩ "value_text" s_value_text := ft_of X Gm c 15 15 rfl rfl
  have f_ratio_by : FT ⟨P, w, K, mg, base⟩ "ratio_by" s_ratio_by := ft_of X Gm c 16 16 rfl rfl
  have f_value_by : FT ⟨P, w, K, mg, base⟩ "value_by" s_value_by := ft_of X Gm c 17 17 rfl rfl
  have f_value_in : FT ⟨P, w, K, mg, base⟩ "value_in" s_value_in := ft_of X Gm c 18 18 rfl rfl
  have f_value_of_text : FT ⟨P, w, K, mg, base⟩ "value_of_text" s_value_of_text := ft_of X Gm c 19 19 rfl rfl
  have f__law_pen : FT ⟨P, w, K, mg, base⟩ "_law_pen" s__law_pen := ft_of X Gm c 20 20 rfl rfl
  have f__law_draw : FT ⟨P, w, K, mg, base⟩ "_law_draw" s__law_draw := ft_of X Gm c 21 21 rfl rfl
  have f__law_pick : FT ⟨P, w, K, mg, base⟩ "_law_pick" s__law_pick := ft_of X Gm c 22 22 rfl rfl
  have f__law_is : FT ⟨P, w, K, mg, base⟩ "_law_is" s__law_is := ft_of X Gm c 23 23 rfl rfl
  have f__law_divisor : FT ⟨P, w, K, mg, base⟩ "_law_divisor" s__law_divisor := ft_of X Gm c 24 24 rfl rfl
  have f__law_low : FT ⟨P, w, K, mg, base⟩ "_law_low" s__law_low := ft_of X Gm c 25 25 rfl rfl
  have f__law_pair : FT ⟨P, w, K, mg, base⟩ "_law_pair" s__law_pair := ft_of X Gm c 26 26 rfl rfl
  have f__law_times : FT ⟨P, w, K, mg, base⟩ "_law_times" s__law_times := ft_of X Gm c 27 27 rfl rfl
  have f__law_sign : FT ⟨P, w, K, mg, base⟩ "_law_sign" s__law_sign := ft_of X Gm c 28 28 rfl rfl
  have f__law_is_ratio : FT ⟨P, w, K, mg, base⟩ "_law_is_ratio" s__law_is_ratio := ft_of X Gm c 29 29 rfl rfl
  have f__law_is_whole : FT ⟨P, w, K, mg, base⟩ "_law_is_whole" s__law_is_whole := ft_of X Gm c 30 30 rfl rfl
  have f__law_number : FT ⟨P, w, K, mg, base⟩ "_law_number" s__law_number := ft_of X Gm c 31 31 rfl rfl
  have f__law_wide : FT ⟨P, w, K, mg, base⟩ "_law_wide" s__law_wide := ft_of X Gm c 32 32 rfl rfl
  have f__law_fault : FT ⟨P, w, K, mg, base⟩ "_law_fault" s__law_fault := ft_of X Gm c 33 33 rfl rfl
  have f__law_kinds : FT ⟨P, w, K, mg, base⟩ "_law_kinds" s__law_kinds := ft_of X Gm c 34 34 rfl rfl
  have f__law_more_kinds : FT ⟨P, w, K, mg, base⟩ "_law_more_kinds" s__law_more_kinds := ft_of X Gm c 35 35 rfl rfl
  have f__law_drawn_value : FT ⟨P, w, K, mg, base⟩ "_law_drawn_value" s__law_drawn_value := ft_of X Gm c 36 36 rfl rfl
  have f__law_tokens_of : FT ⟨P, w, K, mg, base⟩ "_law_tokens_of" s__law_tokens_of := ft_of X Gm c 37 37 rfl rfl
  have f__law_text_of : FT ⟨P, w, K, mg, base⟩ "_law_text_of" s__law_text_of := ft_of X Gm c 38 38 rfl rfl
  have f__law_is_figures : FT ⟨P, w, K, mg, base⟩ "_law_is_figures" s__law_is_figures := ft_of X Gm c 39 39 rfl rfl
  have f__law_read : FT ⟨P, w, K, mg, base⟩ "_law_read" s__law_read := ft_of X Gm c 40 40 rfl rfl
  have f__law_right := ftc_of (P := P) (w := w) (base := base) X Gm c 41 41 (x := "_law_right") (st := s__law_right) rfl rfl
  have f__law_read_fault := ftc_of (P := P) (w := w) (base := base) X Gm c 42 42 (x := "_law_read_fault") (st := s__law_read_fault) rfl rfl
  have f_law := ftc_of (P := P) (w := w) (base := base) X Gm c 43 43 (x := "law") (st := s_law) rfl rfl
  have f_is_plain : FTD ⟨P, w, K, mg, base⟩ "is_plain" s_is_plain [.int 0] := ftd_of X Gm c 12 12 rfl rfl
  have TT : XC K mg "BadText" (He.ga K "BadText") := ⟨(ex.at_ "BadText" (by decide +kernel)).1, (ex.at_ "BadText" (by decide +kernel)).2.2, (ex.at_ "BadText" (by decide +kernel)).2.1⟩
  have TR : XC K mg "BadRow" (He.ga K "BadRow") := ⟨(ex.at_ "BadRow" (by decide +kernel)).1, (ex.at_ "BadRow" (by decide +kernel)).2.2, (ex.at_ "BadRow" (by decide +kernel)).2.1⟩
  have IT := ok_BadText_init (g := ⟨P, w, K, mg, base⟩) (ini_of (P := P) (mg := mg) (base := base) c 50 rfl 7 rfl rfl) TT (ex.fld ("BadText", ["line", "word"]) (by decide +kernel) "line" (by decide +kernel)) (ex.fld ("BadText", ["line", "word"]) (by decide +kernel) "word" (by decide +kernel))
  have IR := ok_BadRow_init (g := ⟨P, w, K, mg, base⟩) (ini_of (P := P) (mg := mg) (base := base) c 45 rfl 2 rfl rfl) TR (ex.fld ("BadRow", ["what", "row"]) (by decide +kernel) "what" (by decide +kernel)) (ex.fld ("BadRow", ["what", "row"]) (by decide +kernel) "row" (by decide +kernel))
  have RR : RC K mg (He.ga K "Reader") := ⟨He.cls_ok (fa_of c 79 rfl), He.noat_ok (fa_of c 85 rfl), He.noat_ok (fa_of c 83 rfl), He.noat_ok (fa_of c 84 rfl), He.noat_ok (fa_of c 81 rfl), He.noat_ok (fa_of c 82 rfl)⟩
  have MK := He.mkr_ok (fa_of c 80 (f := .mkr "Reader") rfl)
  have RMk : RM K mg (He.ga K "Reader") := ⟨MK.makes, MK.kp, He.glo_ok X Gm (fa_of c 61 rfl)⟩
  -- the program's defs
  have GI := ok_is_integer nm f_is_integer
  have GRa := ok_is_ratio nm f_is_ratio GI
  have GPa := ok_pair nm f_pair
  have GOp := ok_opposite nm f_opposite
  have GSi := ok_sign_of nm f_sign_of
  have GLi := ok_is_list nm f_is_list
  have GAs := ok_as_tuples nm f_as_tuples 20
  have GSm := ok_is_small nm f_is_small GPa
  have GPl := ok_is_plain nm f_is_plain GRa GSm GLi 20
  have GRT := ok_ratio_text nm f_ratio_text GPa GSi
  have GTV := ok_text_of_value nm f_text_of_value GRa GRT 20
  have GVT := ok_value_text nm 20 f_value_text GPl GAs GTV TR IR
  have GRn := ok_run_of nm f_run_of
  have GTo := ok_tokens_of nm f_tokens_of GRn TT IT
  have GNu := ok_is_numeral nm f_is_numeral
  have mW := ok_wrong RR (mt_of (P := P) (mg := mg) (base := base) c 59 86 rfl rfl) TT IT
  have mP := ok_peek nm RR (mt_of (P := P) (mg := mg) (base := base) c 60 87 rfl rfl)
  have mN := ok_next_is nm RR (mt_of (P := P) (mg := mg) (base := base) c 61 88 rfl rfl)
  have mD := ok_need RR (mt_of (P := P) (mg := mg) (base := base) c 62 89 rfl rfl) mN mW
  have mE := ok_end nm RR (mt_of (P := P) (mg := mg) (base := base) c 65 92 rfl rfl) mW
  have mM := ok_numeral nm RR (mt_of (P := P) (mg := mg) (base := base) c 63 90 rfl rfl) GNu mP mW
  have mI := ok_init RR (mti_of (P := P) (mg := mg) (base := base) c 58 80 rfl rfl)
  have GRB := ok_ratio_by nm RR f_ratio_by mN mM mW GRa GOp
  have GVB := ok_value_by nm RR f_value_by mN mD GRB 20
  have GVI := ok_value_in nm RR RMk f_value_in mI mE 20 (by decide) GVB
  have GVO := ok_value_of_text 20 f_value_of_text GTo GVI
  -- an empty dict
  have dI := dct_integer nm f_is_integer
  have dR := dct_ratio nm f_is_ratio dI
  have dL := dct_list nm f_is_list
  have dP := dct_plain nm f_is_plain dR dL
  have dV := dct_value_text f_value_text dP TR IR
  -- the law's defs
  have lD := ok_draw nm f__law_draw
  have lV := ok_ldiv nm f__law_divisor
  have lL := ok_llow f__law_low lV
  have lP := ok_lpair nm f__law_pair
  have lS := ok_lsign nm f__law_sign lP
  have lT := ok_ltimes f__law_times lP lL
  have lW := ok_lwhole nm f__law_is_whole
  have lR := ok_lratio nm f__law_is_ratio lW lV
  have lWi := ok_wide nm f__law_wide lD
  have lN := ok_number f__law_number lD lWi lL
  have lPk := ok_pick nm f__law_pick lD
  have lDr := ok_drawn nm f__law_drawn_value lD lN 3 (by decide)
  have lPe := ok_pen nm f__law_pen
  have lTk := ok_ltok nm f__law_tokens_of lR lS lT lW 3 (by decide)
  have lTx := ok_ltext nm f__law_text_of 3 (by decide) lTk
  have lFi := ok_lfig nm f__law_is_figures
  have lRd := ok_lread nm f__law_read lFi lV 20
  have lIs := ok_is nm f__law_is 20
  have lMo := ok_more (φ := fun _ => True) nm ex f__law_more_kinds
  have lKT := (ok_kindsT nm ex f__law_kinds lMo).imp (sp' := spKind K (He.ga K) "BadText" PPt) fun p vs H Q E ⟨h1, d, t, h2, ⟨fs, ln, wd, h3, h4, h5, h6⟩, k⟩ => ⟨h1, d, fs, ln, wd, h2, h3, h4, h5, by rw [h6] at k; exact k⟩
  have lKR := (ok_kindsR nm ex f__law_kinds lMo).imp (sp' := spKind K (He.ga K) "BadRow" (PPr K)) fun p vs H Q E ⟨h1, d, t, h2, ⟨fs, wt, v, d0, h3, h4, h5, h6, h7, h8, h9⟩, k⟩ => ⟨h1, d, fs, wt, v, d0, h2, h3, h4, h5, h6, h7, h8, by rw [h9] at k; exact k⟩
  have RF : RightF ⟨P, w, K, mg, base⟩ (He.ga K) 20 := ⟨lD, lPk, lDr, lTx, lTk, lIs, GVT, GVO, lRd⟩
  have m1 : ((He.cT K ("_law_right", none)).2, lamQ "_law_right") ∈ tabT K := List.mem_of_getElem? (i := 0) rfl
  have m2 : ((He.cT K ("_law_read_fault", none)).2, lamQ "_law_read_fault") ∈ tabT K := List.mem_of_getElem? (i := 1) rfl
  have m3 : ((He.cT K ("law", none)).2, lamQ "law") ∈ tabT K := List.mem_of_getElem? (i := 2) rfl
  have gR := ok_right nm ex f__law_right f__law_fault lKT (TB ("_law_right", none) (List.mem_of_getElem? (i := 0) rfl)) m1 (fun p hp e => tab_one c hp m1 e) RF
  have gF := ok_rfault nm ex f__law_read_fault f__law_fault lKT (TB ("_law_read_fault", none) (List.mem_of_getElem? (i := 1) rfl)) m2 (fun p hp e => tab_one c hp m2 e) 20 GVO
  exact ok_law nm ex ⟨RF, lPe, gR, gF, dV, lKR, f__law_fault⟩ f_law (TB ("law", none) (List.mem_of_getElem? (i := 2) rfl)) m3 (fun p hp e => tab_one c hp m3 e)
end
end G

/-! # EN: the end -/
namespace G
open PySem PySem.Spec PyProof.Rows L2
abbrev lw : PySem.W.OpenLaw := PySem.Challenge.rw_genuspapers_k75_whole_plain_values
abbrev dl : DefRec := HandSHeadRun.topDef Rw.prog lawAt
theorem room43 : Room 43 callerA := ⟨rfl, by decide +kernel, by decide +kernel⟩
theorem tabs_at {K : PySem.W.Frag} {H : Hp} (h : ∀ p ∈ tfl.map (He.cT K), H p.2 = some (.tbl #[])) : LamX.Tabs (tabT K) H := fun p hp => by
  have m : ∀ d ∈ tfl, H (He.cT K d).2 = some (.tbl #[]) := fun d hd => h _ (List.mem_map.mpr ⟨d, hd, rfl⟩)
  simp only [tabT, List.mem_cons, List.not_mem_nil, or_false] at hp
  rcases hp with rfl | rfl | rfl
  · exact .nil (m ("_law_right", none) (List.mem_of_getElem? (i := 0) rfl))
  · exact .nil (m ("_law_read_fault", none) (List.mem_of_getElem? (i := 1) rfl))
  · exact .nil (m ("law", none) (List.mem_of_getElem? (i := 2) rfl))
theorem walk : PySem.W.WalkO qv loose (PySem.W.XL qv []) hk.says Rw.toRowW dl [] (fun f vs => PySem.call f vs) := by
  refine Att.attach_callB (l := lw) (n := 63) rfl (by kernel_rfl) fun w s₀ s₁ mg mb fa o pm cd doc a vs ns G Y ho hd hcd hmg hobj hints hlen hbits hg => ?_
  obtain ⟨K, KX, c⟩ := Y
  have hmg1 : mg ("law" : Str) = some (.ref fa) := by
    have e : dl.name = ("law" : Str) := by kernel_rfl
    rw [← e]
    exact hmg
  have each : ∀ p ∈ tfl.map (He.cT K), ∃ d ∈ tfl, He.cT K d = p := fun p hp => List.mem_map.mp hp
  have S : AtCall K mg (tfl.map (He.cT K)) a vs ns s₁.heap := ⟨KX, G.T.g, ⟨mb, G.T.b, G.T.builtins⟩, G.T.nolimit, fun p hp => by
    obtain ⟨d, hd, rfl⟩ := each p hp
    exact c.empty d hd, fun p hp => by
    obtain ⟨d, hd, rfl⟩ := each p hp
    exact c.out d hd, fun p hp => by
    obtain ⟨d, hd, rfl⟩ := each p hp
    exact c.hd d hd, G.T.bmain, hobj, hints, Nat.le_trans hlen (by decide)⟩
  refine run_lawG (x := "law") (y := "script") (sp := spLaw K (tabT K)) S hg room43 hmg1 (fun base hK hN TB => law_of (P := lw.prog) (w := w) (h := s₁.heap) KX G.T.g c fun p hp => TB _ (List.mem_map.mpr ⟨p, hp, rfl⟩)) fun H hH hS => ⟨a, ns, rfl, hS, Nat.le_trans hlen (by decide), tabs_at hH, fun _ => rfl⟩
end G
open PySem PySem.W PySem.Calls PyProof.Rows
theorem PySem.Challenge.cw_genuspapers_k75_whole_plain_values_holds : PySem.Challenge.rw_genuspapers_k75_whole_plain_values.Holds := by
  w_on; o_law
  refine HandSHeadRun.head_imp (r := OpenLaw.row PySem.Challenge.rw_genuspapers_k75_whole_plain_values) (q := G.qv) (H := G.hk) (ob := G.ob) (M := 9000) (loose := G.loose) (d := G.dl) (kwd := []) G.ob_eq G.run (by kernel_rfl) (by kernel_rfl) (by kernel_rfl) (by rfl) (by first | assumption | decide +kernel) (by decide +kernel) ⟨rfl, rfl, rfl, rfl, rfl, by decide +kernel⟩ ?hw ?hc
  case hw => w_witness2
  case hc => exact G.walk


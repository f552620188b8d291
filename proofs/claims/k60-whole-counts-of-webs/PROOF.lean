import PyProof.Rows.All
import Wide.All
import OpenK.AllK
import Wide.FinOn
import HandS.ForMost
import HandS.Exc
import HandS.TryOnly
import HandS.ExcOwn
import HandS.Defaults
import HandS.Head0
import HandS.Head1
import HandS.Head2
import HandS.HeadEnd
import HandS.HeadHook1
import HandS.HeadHook2
import HandS.HeadHook3
import HandS.HeadHook4
import HandS.HeadWalk
import HandS.IsInst
import HandS.TupSets
import HandS.SortOrd
import HandS.SortInts
import HandS.SetKeys
import HandS.SetFor
import HandS.TupAny
import HandS.TupLe
import HandS.More
import HandS.Flow
import HandS.Style
import HandS.Conv
import HandS.Wide
import HandS.WideMore
import HandS.Zip
import HandS.CallLocal
import HandS.DictComp
import HandS.ListItems
import HandS.Lambda
import HandS.EndTab
import HandS.ExcInit
import HandS.ExcField
import HandS.ExcIs
import HandS.ExcValue
import KE.KExcSuper
import PySem.Challenge.RW_ruleshadows_k60_whole_counts_of_webs
import KE.GoesMore
import HandS.NamedTupSort
import HandS.Deep
import KE.KExcIs
import HandS.MakeKwOnly
section
set_option Elab.async false
set_option linter.all false
set_option maxRecDepth 100000
set_option maxHeartbeats 4000000
namespace Kz
open PySem PySem.Spec PyProof.Rows L2
/-! ### the text by places -/
def topS (i : Nat) : Stmt := PySem.Challenge.pw_ruleshadows_k60_whole_counts_of_webs.main.body.getD i (.Pass ⟨0, 0, 0, 0⟩)
abbrev sd_is_number : Stmt := topS 12
abbrev sd_is_between : Stmt := topS 13
abbrev sd_is_list : Stmt := topS 14
abbrev sd_is_row : Stmt := topS 15
abbrev sd_are_rows : Stmt := topS 16
abbrev sd_need_prime : Stmt := topS 17
abbrev sd_need_letters : Stmt := topS 18
abbrev sd_need_from : Stmt := topS 19
abbrev sd_many_words : Stmt := topS 20
abbrev sd_need_rows : Stmt := topS 21
abbrev sd_undone : Stmt := topS 23
abbrev sd_few : Stmt := topS 24
abbrev sd_whole_row : Stmt := topS 25
abbrev sd_lessened : Stmt := topS 26
abbrev sd_cleared : Stmt := topS 27
abbrev sd_heads_of : Stmt := topS 28
abbrev sd_tidy_rows : Stmt := topS 29
abbrev sd_Rules___init__ : Stmt := L2.inClass (topS 31) 0
abbrev sd_need_book : Stmt := topS 32
abbrev sd_pair_row : Stmt := topS 33
abbrev sd_placed_few : Stmt := topS 35
abbrev sd_nothing_heads : Stmt := topS 36
abbrev sd_need_length : Stmt := topS 37
abbrev sd_rest_spots : Stmt := topS 38
abbrev sd_count : Stmt := topS 39
abbrev sd_unrolled_to : Stmt := topS 41
abbrev sd_trimmed : Stmt := topS 42
abbrev sd_products_joined : Stmt := topS 43
abbrev sd_lists_joined : Stmt := topS 44
abbrev sd_common_number : Stmt := topS 45
abbrev sd_left_over : Stmt := topS 46
abbrev sd_common_list : Stmt := topS 47
abbrev sd_least_fraction : Stmt := topS 48
abbrev sd_is_line : Stmt := topS 50
abbrev sd_need_lines : Stmt := topS 51
abbrev sd_need_web : Stmt := topS 52
abbrev sd_web_rows : Stmt := topS 53
abbrev sd_web_book : Stmt := topS 54
abbrev sd_shut_web : Stmt := topS 55
abbrev sd_lots_in : Stmt := topS 56
abbrev sd_list_power : Stmt := topS 58
abbrev sd_web_fraction : Stmt := topS 59
abbrev sd_shut_fraction : Stmt := topS 60
abbrev sl_begun : Stmt := topS 62
abbrev sl_mixed : Stmt := topS 63
abbrev sl_take : Stmt := topS 64
abbrev sl_pick : Stmt := topS 65
abbrev sl_shuffled : Stmt := topS 66
abbrev sl_field : Stmt := topS 67
abbrev sl_caught : Stmt := topS 68
abbrev sl_many : Stmt := topS 69
abbrev sl_pairs : Stmt := topS 70
abbrev sl_longest : Stmt := topS 71
abbrev sl_given : Stmt := topS 72
abbrev sl_is_number : Stmt := topS 73
abbrev sl_unrolled : Stmt := topS 74
abbrev sl_last_cut : Stmt := topS 75
abbrev sl_share_part : Stmt := topS 76
abbrev sl_is_fraction : Stmt := topS 77
abbrev sl_drawn_web : Stmt := topS 78
abbrev sl_ring : Stmt := topS 79
abbrev sl_joined_by_lines : Stmt := topS 80
abbrev sl_all_lots : Stmt := topS 81
abbrev sl_bad_lines : Stmt := topS 82
abbrev sl_bad_nothings : Stmt := topS 83
abbrev sl_web_letters : Stmt := topS 84
abbrev sl_series_joined : Stmt := topS 85
abbrev sl_lots_sum : Stmt := topS 86
abbrev sl_books_count : Stmt := topS 87
abbrev sl_fractions_refused : Stmt := topS 88
abbrev sd_law : Stmt := topS 89
abbrev sBN : Stmt := L2.inClass (topS 3) 0
end Kz
end
section
set_option Elab.async false
set_option linter.all false
set_option maxRecDepth 100000
set_option maxHeartbeats 0
/-! the head: what is looked at; in a namespace of its own -/
namespace KzH
open PySem PySem.Spec PyProof.Rows L2 PySem.HandSPX PySem.W Kz
def d_is_number : He.DefD := ⟨("is_number", none), "is_number", "is_number", L2.defArgs sd_is_number, L2.defBody sd_is_number, L2.defScope sd_is_number, [], []⟩
def d_is_between : He.DefD := ⟨("is_between", none), "is_between", "is_between", L2.defArgs sd_is_between, L2.defBody sd_is_between, L2.defScope sd_is_between, [], []⟩
def d_is_list : He.DefD := ⟨("is_list", none), "is_list", "is_list", L2.defArgs sd_is_list, L2.defBody sd_is_list, L2.defScope sd_is_list, [], []⟩
def d_is_row : He.DefD := ⟨("is_row", none), "is_row", "is_row", L2.defArgs sd_is_row, L2.defBody sd_is_row, L2.defScope sd_is_row, [], []⟩
def d_are_rows : He.DefD := ⟨("are_rows", none), "are_rows", "are_rows", L2.defArgs sd_are_rows, L2.defBody sd_are_rows, L2.defScope sd_are_rows, [], []⟩
def d_need_prime : He.DefD := ⟨("need_prime", none), "need_prime", "need_prime", L2.defArgs sd_need_prime, L2.defBody sd_need_prime, L2.defScope sd_need_prime, [], []⟩
def d_need_letters : He.DefD := ⟨("need_letters", none), "need_letters", "need_letters", L2.defArgs sd_need_letters, L2.defBody sd_need_letters, L2.defScope sd_need_letters, [], []⟩
def d_need_from : He.DefD := ⟨("need_from", none), "need_from", "need_from", L2.defArgs sd_need_from, L2.defBody sd_need_from, L2.defScope sd_need_from, [], []⟩
def d_many_words : He.DefD := ⟨("many_words", none), "many_words", "many_words", L2.defArgs sd_many_words, L2.defBody sd_many_words, L2.defScope sd_many_words, [], []⟩
def d_need_rows : He.DefD := ⟨("need_rows", none), "need_rows", "need_rows", L2.defArgs sd_need_rows, L2.defBody sd_need_rows, L2.defScope sd_need_rows, [], []⟩
def d_undone : He.DefD := ⟨("undone", none), "undone", "undone", L2.defArgs sd_undone, L2.defBody sd_undone, L2.defScope sd_undone, [], []⟩
def d_few : He.DefD := ⟨("few", none), "few", "few", L2.defArgs sd_few, L2.defBody sd_few, L2.defScope sd_few, [], []⟩
def d_whole_row : He.DefD := ⟨("whole_row", none), "whole_row", "whole_row", L2.defArgs sd_whole_row, L2.defBody sd_whole_row, L2.defScope sd_whole_row, [], []⟩
def d_lessened : He.DefD := ⟨("lessened", none), "lessened", "lessened", L2.defArgs sd_lessened, L2.defBody sd_lessened, L2.defScope sd_lessened, [], []⟩
def d_cleared : He.DefD := ⟨("cleared", none), "cleared", "cleared", L2.defArgs sd_cleared, L2.defBody sd_cleared, L2.defScope sd_cleared, [], []⟩
def d_heads_of : He.DefD := ⟨("heads_of", none), "heads_of", "heads_of", L2.defArgs sd_heads_of, L2.defBody sd_heads_of, L2.defScope sd_heads_of, [], []⟩
def d_tidy_rows : He.DefD := ⟨("tidy_rows", none), "tidy_rows", "tidy_rows", L2.defArgs sd_tidy_rows, L2.defBody sd_tidy_rows, L2.defScope sd_tidy_rows, [], []⟩
def d_Rules___init__ : He.DefD := ⟨("Rules", some "__init__"), "__init__", "Rules.__init__", L2.defArgs sd_Rules___init__, L2.defBody sd_Rules___init__, L2.defScope sd_Rules___init__, [], []⟩
def d_need_book : He.DefD := ⟨("need_book", none), "need_book", "need_book", L2.defArgs sd_need_book, L2.defBody sd_need_book, L2.defScope sd_need_book, [], []⟩
def d_pair_row : He.DefD := ⟨("pair_row", none), "pair_row", "pair_row", L2.defArgs sd_pair_row, L2.defBody sd_pair_row, L2.defScope sd_pair_row, [], []⟩
def d_placed_few : He.DefD := ⟨("placed_few", none), "placed_few", "placed_few", L2.defArgs sd_placed_few, L2.defBody sd_placed_few, L2.defScope sd_placed_few, [], []⟩
def d_nothing_heads : He.DefD := ⟨("nothing_heads", none), "nothing_heads", "nothing_heads", L2.defArgs sd_nothing_heads, L2.defBody sd_nothing_heads, L2.defScope sd_nothing_heads, [], []⟩
def d_need_length : He.DefD := ⟨("need_length", none), "need_length", "need_length", L2.defArgs sd_need_length, L2.defBody sd_need_length, L2.defScope sd_need_length, [], []⟩
def d_rest_spots : He.DefD := ⟨("rest_spots", none), "rest_spots", "rest_spots", L2.defArgs sd_rest_spots, L2.defBody sd_rest_spots, L2.defScope sd_rest_spots, [], []⟩
def d_count : He.DefD := ⟨("count", none), "count", "count", L2.defArgs sd_count, L2.defBody sd_count, L2.defScope sd_count, [], []⟩
def d_unrolled_to : He.DefD := ⟨("unrolled_to", none), "unrolled_to", "unrolled_to", L2.defArgs sd_unrolled_to, L2.defBody sd_unrolled_to, L2.defScope sd_unrolled_to, [], []⟩
def d_trimmed : He.DefD := ⟨("trimmed", none), "trimmed", "trimmed", L2.defArgs sd_trimmed, L2.defBody sd_trimmed, L2.defScope sd_trimmed, [], []⟩
def d_products_joined : He.DefD := ⟨("products_joined", none), "products_joined", "products_joined", L2.defArgs sd_products_joined, L2.defBody sd_products_joined, L2.defScope sd_products_joined, [], []⟩
def d_lists_joined : He.DefD := ⟨("lists_joined", none), "lists_joined", "lists_joined", L2.defArgs sd_lists_joined, L2.defBody sd_lists_joined, L2.defScope sd_lists_joined, [], []⟩
def d_common_number : He.DefD := ⟨("common_number", none), "common_number", "common_number", L2.defArgs sd_common_number, L2.defBody sd_common_number, L2.defScope sd_common_number, [], []⟩
def d_left_over : He.DefD := ⟨("left_over", none), "left_over", "left_over", L2.defArgs sd_left_over, L2.defBody sd_left_over, L2.defScope sd_left_over, [], []⟩
def d_common_list : He.DefD := ⟨("common_list", none), "common_list", "common_list", L2.defArgs sd_common_list, L2.defBody sd_common_list, L2.defScope sd_common_list, [], []⟩
def d_least_fraction : He.DefD := ⟨("least_fraction", none), "least_fraction", "least_fraction", L2.defArgs sd_least_fraction, L2.defBody sd_least_fraction, L2.defScope sd_least_fraction, [], []⟩
def d_is_line : He.DefD := ⟨("is_line", none), "is_line", "is_line", L2.defArgs sd_is_line, L2.defBody sd_is_line, L2.defScope sd_is_line, [], []⟩
def d_need_lines : He.DefD := ⟨("need_lines", none), "need_lines", "need_lines", L2.defArgs sd_need_lines, L2.defBody sd_need_lines, L2.defScope sd_need_lines, [], []⟩
def d_need_web : He.DefD := ⟨("need_web", none), "need_web", "need_web", L2.defArgs sd_need_web, L2.defBody sd_need_web, L2.defScope sd_need_web, [], []⟩
def d_web_rows : He.DefD := ⟨("web_rows", none), "web_rows", "web_rows", L2.defArgs sd_web_rows, L2.defBody sd_web_rows, L2.defScope sd_web_rows, [], []⟩
def d_web_book : He.DefD := ⟨("web_book", none), "web_book", "web_book", L2.defArgs sd_web_book, L2.defBody sd_web_book, L2.defScope sd_web_book, [], []⟩
def d_shut_web : He.DefD := ⟨("shut_web", none), "shut_web", "shut_web", L2.defArgs sd_shut_web, L2.defBody sd_shut_web, L2.defScope sd_shut_web, [], []⟩
def d_lots_in : He.DefD := ⟨("lots_in", none), "lots_in", "lots_in", L2.defArgs sd_lots_in, L2.defBody sd_lots_in, L2.defScope sd_lots_in, [], []⟩
def d_list_power : He.DefD := ⟨("list_power", none), "list_power", "list_power", L2.defArgs sd_list_power, L2.defBody sd_list_power, L2.defScope sd_list_power, [], []⟩
def d_web_fraction : He.DefD := ⟨("web_fraction", none), "web_fraction", "web_fraction", L2.defArgs sd_web_fraction, L2.defBody sd_web_fraction, L2.defScope sd_web_fraction, [], []⟩
def d_shut_fraction : He.DefD := ⟨("shut_fraction", none), "shut_fraction", "shut_fraction", L2.defArgs sd_shut_fraction, L2.defBody sd_shut_fraction, L2.defScope sd_shut_fraction, [], []⟩
def l_begun : He.DefD := ⟨("_law_begun", none), "_law_begun", "_law_begun", L2.defArgs sl_begun, L2.defBody sl_begun, L2.defScope sl_begun, [], []⟩
def l_mixed : He.DefD := ⟨("_law_mixed", none), "_law_mixed", "_law_mixed", L2.defArgs sl_mixed, L2.defBody sl_mixed, L2.defScope sl_mixed, [], []⟩
def l_take : He.DefD := ⟨("_law_take", none), "_law_take", "_law_take", L2.defArgs sl_take, L2.defBody sl_take, L2.defScope sl_take, [], []⟩
def l_pick : He.DefD := ⟨("_law_pick", none), "_law_pick", "_law_pick", L2.defArgs sl_pick, L2.defBody sl_pick, L2.defScope sl_pick, [], []⟩
def l_shuffled : He.DefD := ⟨("_law_shuffled", none), "_law_shuffled", "_law_shuffled", L2.defArgs sl_shuffled, L2.defBody sl_shuffled, L2.defScope sl_shuffled, [], []⟩
def l_field : He.DefD := ⟨("_law_field", none), "_law_field", "_law_field", L2.defArgs sl_field, L2.defBody sl_field, L2.defScope sl_field, [], []⟩
def l_caught : He.DefD := ⟨("_law_caught", none), "_law_caught", "_law_caught", L2.defArgs sl_caught, L2.defBody sl_caught, L2.defScope sl_caught, [], []⟩
def l_many : He.DefD := ⟨("_law_many", none), "_law_many", "_law_many", L2.defArgs sl_many, L2.defBody sl_many, L2.defScope sl_many, [], []⟩
def l_pairs : He.DefD := ⟨("_law_pairs", none), "_law_pairs", "_law_pairs", L2.defArgs sl_pairs, L2.defBody sl_pairs, L2.defScope sl_pairs, [], []⟩
def l_longest : He.DefD := ⟨("_law_longest", none), "_law_longest", "_law_longest", L2.defArgs sl_longest, L2.defBody sl_longest, L2.defScope sl_longest, [], []⟩
def l_given : He.DefD := ⟨("_law_given", none), "_law_given", "_law_given", L2.defArgs sl_given, L2.defBody sl_given, L2.defScope sl_given, [], []⟩
def l_is_number : He.DefD := ⟨("_law_is_number", none), "_law_is_number", "_law_is_number", L2.defArgs sl_is_number, L2.defBody sl_is_number, L2.defScope sl_is_number, [], []⟩
def l_unrolled : He.DefD := ⟨("_law_unrolled", none), "_law_unrolled", "_law_unrolled", L2.defArgs sl_unrolled, L2.defBody sl_unrolled, L2.defScope sl_unrolled, [], []⟩
def l_last_cut : He.DefD := ⟨("_law_last_cut", none), "_law_last_cut", "_law_last_cut", L2.defArgs sl_last_cut, L2.defBody sl_last_cut, L2.defScope sl_last_cut, [], []⟩
def l_share_part : He.DefD := ⟨("_law_share_part", none), "_law_share_part", "_law_share_part", L2.defArgs sl_share_part, L2.defBody sl_share_part, L2.defScope sl_share_part, [], []⟩
def l_is_fraction : He.DefD := ⟨("_law_is_fraction", none), "_law_is_fraction", "_law_is_fraction", L2.defArgs sl_is_fraction, L2.defBody sl_is_fraction, L2.defScope sl_is_fraction, [], []⟩
def l_drawn_web : He.DefD := ⟨("_law_drawn_web", none), "_law_drawn_web", "_law_drawn_web", L2.defArgs sl_drawn_web, L2.defBody sl_drawn_web, L2.defScope sl_drawn_web, [], []⟩
def l_ring : He.DefD := ⟨("_law_ring", none), "_law_ring", "_law_ring", L2.defArgs sl_ring, L2.defBody sl_ring, L2.defScope sl_ring, [], []⟩
def l_joined_by_lines : He.DefD := ⟨("_law_joined_by_lines", none), "_law_joined_by_lines", "_law_joined_by_lines", L2.defArgs sl_joined_by_lines, L2.defBody sl_joined_by_lines, L2.defScope sl_joined_by_lines, [], []⟩
def l_all_lots : He.DefD := ⟨("_law_all_lots", none), "_law_all_lots", "_law_all_lots", L2.defArgs sl_all_lots, L2.defBody sl_all_lots, L2.defScope sl_all_lots, [], []⟩
def l_bad_lines : He.DefD := ⟨("_law_bad_lines", none), "_law_bad_lines", "_law_bad_lines", L2.defArgs sl_bad_lines, L2.defBody sl_bad_lines, L2.defScope sl_bad_lines, [], []⟩
def l_bad_nothings : He.DefD := ⟨("_law_bad_nothings", none), "_law_bad_nothings", "_law_bad_nothings", L2.defArgs sl_bad_nothings, L2.defBody sl_bad_nothings, L2.defScope sl_bad_nothings, [], []⟩
def l_web_letters : He.DefD := ⟨("_law_web_letters", none), "_law_web_letters", "_law_web_letters", L2.defArgs sl_web_letters, L2.defBody sl_web_letters, L2.defScope sl_web_letters, [], []⟩
def l_series_joined : He.DefD := ⟨("_law_series_joined", none), "_law_series_joined", "_law_series_joined", L2.defArgs sl_series_joined, L2.defBody sl_series_joined, L2.defScope sl_series_joined, [], []⟩
def l_lots_sum : He.DefD := ⟨("_law_lots_sum", none), "_law_lots_sum", "_law_lots_sum", L2.defArgs sl_lots_sum, L2.defBody sl_lots_sum, L2.defScope sl_lots_sum, [], []⟩
def l_books_count : He.DefD := ⟨("_law_books_count", none), "_law_books_count", "_law_books_count", L2.defArgs sl_books_count, L2.defBody sl_books_count, L2.defScope sl_books_count, [], []⟩
def l_fractions_refused : He.DefD := ⟨("_law_fractions_refused", none), "_law_fractions_refused", "_law_fractions_refused", L2.defArgs sl_fractions_refused, L2.defBody sl_fractions_refused, L2.defScope sl_fractions_refused, [], []⟩
def d_law : He.DefD := ⟨("law", none), "law", "law", L2.defArgs sd_law, L2.defBody sd_law, L2.defScope sd_law, [], []⟩
def fnL : List He.DefD := [d_is_number, d_is_between, d_is_list, d_is_row, d_are_rows, d_need_prime, d_need_letters, d_need_from, d_many_words, d_need_rows, d_undone, d_few, d_whole_row, d_lessened, d_cleared, d_heads_of, d_tidy_rows, d_Rules___init__, d_need_book, d_pair_row, d_placed_few, d_nothing_heads, d_need_length, d_rest_spots, d_count, d_unrolled_to, d_trimmed, d_products_joined, d_lists_joined, d_common_number, d_left_over, d_common_list, d_least_fraction, d_is_line, d_need_lines, d_need_web, d_web_rows, d_web_book, d_shut_web, d_lots_in, d_list_power, d_web_fraction, d_shut_fraction, l_begun, l_mixed, l_take, l_pick, l_shuffled, l_field, l_caught, l_many, l_pairs, l_longest, l_given, l_is_number, l_unrolled, l_last_cut, l_share_part, l_is_fraction, l_drawn_web, l_ring, l_joined_by_lines, l_all_lots, l_bad_lines, l_bad_nothings, l_web_letters, l_series_joined, l_lots_sum, l_books_count, l_fractions_refused, d_law]
def nm0 : List PySem.Str := ["__name__", "RuleError", "BadPrime", "BadNumber", "BadRow", "BadBook", "TooMany", "BadWeb", "PRIMES", "MOST_LETTERS", "MOST_WORDS", "is_number", "is_between", "is_list", "is_row", "are_rows", "need_prime", "need_letters", "need_from", "many_words"]
def nm1 : List PySem.Str := ["need_rows", "undone", "few", "whole_row", "lessened", "cleared", "heads_of", "tidy_rows", "Rules", "need_book", "pair_row", "placed_few", "nothing_heads", "need_length", "rest_spots", "count", "unrolled_to", "trimmed", "products_joined", "lists_joined"]
def nm2 : List PySem.Str := ["common_number", "left_over", "common_list", "least_fraction", "is_line", "need_lines", "need_web", "web_rows", "web_book", "shut_web", "lots_in", "list_power", "web_fraction", "shut_fraction", "_law_begun", "_law_mixed", "_law_take", "_law_pick", "_law_shuffled", "_law_field"]
def nm3 : List PySem.Str := ["_law_caught", "_law_many", "_law_pairs", "_law_longest", "_law_given", "_law_is_number", "_law_unrolled", "_law_last_cut", "_law_share_part", "_law_is_fraction", "_law_drawn_web", "_law_ring", "_law_joined_by_lines", "_law_all_lots", "_law_bad_lines", "_law_bad_nothings", "_law_web_letters", "_law_series_joined", "_law_lots_sum", "_law_books_count"]
def nm4 : List PySem.Str := ["_law_fractions_refused"]
def nmL : List PySem.Str := nm0 ++ nm1 ++ nm2 ++ nm3 ++ nm4
def blt : List PySem.Str := ["isinstance", "len", "all", "any", "range", "set", "sorted", "dict", "list", "tuple", "int", "abs", "min", "max", "sum", "enumerate", "zip", "bool", "super"]
/-- the defs of the top by their names -/
def gl0 : List PySem.Str := ["is_number", "is_between", "is_list", "is_row", "are_rows", "need_prime", "need_letters", "need_from", "many_words"]
def gl1 : List PySem.Str := ["law", "RuleError", "BadNumber", "BadWeb", "PRIMES"]
def gls : List PySem.Str := gl0 ++ nm1 ++ nm2 ++ nm3 ++ nm4 ++ gl1
def faL : List He.Fa := gls.map He.Fa.glo ++ blt.map He.Fa.free ++ [.int "MOST_LETTERS" 9, .int "MOST_WORDS" 1000, .cls "Rules", .noat "Rules" "prime", .noat "Rules" "letters", .noat "Rules" "rules", .mkr "Rules", .exc "BadWeb", .exm "BadNumber" "RuleError" true, .exm "BadWeb" "RuleError" true]
/-! ### the class BadNumber, by a Bool -/
abbrev bnC (K : Frag) : Addr := He.ga K "BadNumber"
abbrev bnI (K : Frag) : Addr := He.ma K (bnC K) "__init__"
def bnCls (K : Frag) (C : Addr) : Bool := match K.lookup C with
  | some ⟨.type t, _, .cls ⟨_, _, mro, _, _, hd, _, _, _, _, del⟩, ⟨[_, _, _, _, some (.builtin n), _]⟩⟩ => (match mro with
    | .ref c :: bm => decide (c = C) && refsVE bm
    | _ => false) && (hd && (!del && (decide (t = "type") && decide (n = "ValueError.__new__"))))
  | _ => false
def bnFn (K : Frag) (C f : Addr) : Bool := match K.lookup f with
  | some ⟨_, _, .func fd, _⟩ => codeIn K fd.code "BadNumber.__init__" && ((match fd.code with
      | .ref cd => (match K.lookup cd with
        | some ⟨_, _, .fields vs, _⟩ => (match (vs[2]? : Option Value) with
          | some (.str z _) => decide (z = "/claim/cut.py")
          | _ => false)
        | _ => false)
      | _ => false) && (match fd.closure with
      | [q] => (match K.lookup q.2 with
        | some ⟨_, _, .cell (some u), _⟩ => decide (u = .ref C)
        | _ => false)
      | _ => false))
  | _ => false
abbrev BnO : Type := Option (Str × Str × Arguments × FuncBody × Scope × Addr × List Str × Value × Value × Addr)
def bnW (K : Frag) (f : Addr) : BnO := match K.lookup f with
  | some ⟨_, _, .func fd, _⟩ => some (fd.name, fd.qualname, fd.params, fd.body, fd.scope, fd.globals, fd.closure.map (·.1), fd.defaults, fd.kwdefaults, fd.builtins)
  | _ => none
def bnV : BnO := some ("__init__", "BadNumber.__init__", L2.defArgs sBN, .stmts (L2.defBody sBN), L2.defScope sBN, mainGlobals, ["__class__"], .none, .none, builtinsNs)
def bnL (K : Frag) : List Bool := [bnCls K (bnC K), bnFn K (bnC K) (bnI K), He.eqO (findIn K (.ref (bnC K)) "__setattr__") (some (some (.builtin "object.__setattr__"))), He.eqO (findIn K (.ref (bnC K)) "part") (some none), He.eqO (findIn K (.ref (bnC K)) "__init__") (some (some (.ref (bnI K)))),
  decide (typeIn K (.ref (bnI K)) = some (.type "function")), keepIn K (.ref (bnC K)), decide (subIn K (.ref (bnC K)) (.type "BaseException") = some true), decide (typeIn K (.ref (bnC K)) = some (.type "type")), decide (subIn K (.ref (bnC K)) (.type "ValueError") = some true), decide (subIn K (.ref (bnC K)) (.ref (bnC K)) = some true),
  He.eqO (nsIn K cStatics "thirdparty.any") (some none), He.eqO (ks_superIn K (bnC K) (bnC K) "__init__") (some (some (.builtin "ValueError.__init__")))]
abbrev ruC (K : Frag) : Addr := He.ga K "Rules"
def ruL (K : Frag) : List Bool := [He.eqO (findIn K (.ref (ruC K)) "__class__") (some (some (.builtin "object.__class__"))), He.eqO (specialIn K (.builtin "object.__class__") "__get__") (some (some (.builtin "getset_descriptor.__get__"))), decide (takesIn K (.builtin "object.__class__") = some true), decide (mroIn K (ruC K) (.type "object") = some true)]
def excB (K : PySem.W.Frag) (D : Addr) : Bool := decide (PySem.W.findIn K (.ref D) "__getattribute__" = some (some (.builtin "BaseException.__getattribute__"))) && (decide (PySem.W.findIn K (.ref D) "__getattr__" = some none) && (decide (PySem.W.subIn K (.ref D) (.type "BaseException") = some true) && (PySem.W.hasDictIn K D &&
  (decide (PySem.W.findIn K (.ref D) "__class__" = some (some (.builtin "object.__class__"))) && (decide (PySem.W.specialIn K (.builtin "object.__class__") "__get__" = some (some (.builtin "getset_descriptor.__get__"))) && (decide (PySem.W.takesIn K (.builtin "object.__class__") = some true) && decide (PySem.W.mroIn K D (.type "object") = some true)))))))
def moL (K : Frag) : List Bool := [He.tupB K "PRIMES" [.int 2, .int 3, .int 5, .int 7, .int 11, .int 13, .int 17, .int 19, .int 23, .int 29, .int 31, .int 37, .int 41, .int 43, .int 47, .int 53, .int 59, .int 61, .int 67, .int 71, .int 73, .int 79, .int 83, .int 89, .int 97], excB K (bnC K), excB K (He.ga K "BadWeb")]
def exB (K : Frag) : Bool := (bnL K ++ ruL K ++ moL K).all fun b => b
/-! ### the Hook: from the module's names and the interpreter's own names -/
abbrev tbL : List He.Defn := [("_law_fractions_refused", none)]
/-- the addresses met, as a number's bits, and as a list -/
def metY (p : Nat × List Addr) (a : Addr) : Nat × List Addr := match Nat.beq (Nat.mod (Nat.shiftRight p.1 a) 2) 1 with
  | true => p
  | false => (Nat.lor p.1 (Nat.shiftLeft 1 a), a :: p.2)
/-- one step on: what the new ones (the list but for its tail from n on) name -/
def stepY (g : Addr → Option Obj) (p : Nat × List Addr) (new : List Addr) : Nat × List Addr := new.foldl (fun q a => match g a with
  | some o => (He.refsD o).foldl metY q
  | none => q) p
def growY (g : Addr → Option Obj) : Nat → Nat × List Addr → List Addr → List Addr
  | 0, p, new => p.2 ++ new
  | n + 1, p, new => (stepY g (p.1, []) new).2 |> fun l => new ++ growY g n ((stepY g (p.1, []) new).1, []) l
def rootsY (g : Addr → Option Obj) : List Addr := cStatics :: growY g 4 (Nat.shiftLeft 1 mainGlobals, []) [mainGlobals]
abbrev fragY (g : Addr → Option Obj) : Frag := He.frT g (rootsY g)
structure SaysY (w : World) (h : Heap) (K : Frag) : Prop where
  x : He.SaysX faL fnL [] tbL exB w h K
  n : bnW K (bnI K) = bnV
def obsY (g : Addr → Option Obj) : He.AlX × BnO := ((He.obsT faL fnL [] (fragY g), exB (fragY g) && He.tabsB g tbL (fragY g)), bnW (fragY g) (bnI (fragY g)))
def valY (w : World) : He.AlX × BnO := (He.valX fnL [] w, bnV)
theorem saysY_gen {w : World} {hp : Heap} {F : Frag} (frn : ∀ {b : Addr} {ob : Obj}, hp.get? b = some ob → He.emptyTab ob = true → F.lookup b = none) (q : ((He.obsT faL fnL [] F, exB F && He.tabsB hp.get? tbL F) : He.AlX) = He.valX fnL [] w) : He.SaysX faL fnL [] tbL exB w hp F := by
  have qT : He.obsT faL fnL [] F = He.valT fnL [] w := (Prod.mk.inj q).1
  obtain ⟨qE, qA⟩ := Bool.and_eq_true_iff.mp (Prod.mk.inj q).2
  have each : ∀ d ∈ tbL, codeHdIn F (He.cT F d).1 (He.cT F d).2 = true ∧ ∃ ob : Obj, hp.get? (He.cT F d).2 = some ob ∧ He.emptyTab ob = true := by
    intro d hd
    obtain ⟨r1, r2⟩ := Bool.and_eq_true_iff.mp (List.all_eq_true.mp qA d hd)
    split at r2
    · rename_i ob eb
      exact ⟨r1, ob, eb, r2⟩
    · cases r2
  refine { t := qT, more := qE, hd := fun d hd => (each d hd).1, out := ?_, empty := ?_ }
  · intro d hd
    obtain ⟨ob, eb, z⟩ := (each d hd).2
    exact frn eb z
  · intro d hd
    obtain ⟨ob, eb, z⟩ := (each d hd).2
    exact eb.trans (congrArg some (He.emptyTab_eq z))
def hookY : Hook where
  α := He.AlX × BnO
  obs := fun st => obsY st.heap.get?
  val := fun w => valY w
  says := fun w hp => ∃ F : Frag, F.In hp ∧ SaysY w hp F
  of := fun _ _ q => ⟨_, He.frT_in, saysY_gen He.frT_none (Prod.mk.inj q).1, (Prod.mk.inj q).2⟩
  keeps := fun _ _ _ ⟨F, i, c⟩ k => ⟨F, Frag.In.keeps i k, { c.x with empty := fun d hd => k _ _ (c.x.empty d hd) }, c.n⟩
theorem obsY_eq {g : Addr → Option Obj} {st : Shared} (q : ∀ b, g b = st.heap.get? b) : obsY g = hookY.obs st := by
  rw [show g = st.heap.get? from funext q] <;> rfl
end KzH
end
section
set_option Elab.async false
set_option linter.all false
set_option maxRecDepth 100000
set_option maxHeartbeats 0
/-! the head: the run -/
namespace KzH
open PySem PySem.Spec PyProof.Rows L2 PySem.W Kz
abbrev rowY : OpenRow := OpenLaw.row PySem.Challenge.rw_ruleshadows_k60_whole_counts_of_webs
def obY (st : SharedT) : He.AlX × BnO := obsY (HandSHeadRun.getT st)
theorem obY_eq (st : SharedT) : obY st = hookY.obs st.abs := obsY_eq (HandSHeadRun.getT_eq st)
theorem runY (w : World) : HandSHeadRun.RunEq rowY (view rowY.prog [89]) hookY obY 6000 nmL w := by
  intro os
  kernel_rfl
end KzH
end
section
set_option linter.all false
/-! the mathematics, 1: clearing rows over a prime field, told by functions from spots to numbers -/
namespace KzM

def sumN : Nat → (Nat → Int) → Int
  | 0, _ => 0
  | n + 1, f => sumN n f + f n
theorem sumN_congr {f g : Nat → Int} : ∀ {n : Nat}, (∀ k, k < n → f k = g k) → sumN n f = sumN n g
  | 0, _ => rfl
  | n + 1, h => by
    show sumN n f + f n = sumN n g + g n
    rw [sumN_congr fun k hk => h k (Nat.lt_succ_of_lt hk), h n (Nat.lt_succ_self n)]
theorem sumN_zero : ∀ {n : Nat} {f : Nat → Int}, (∀ k, k < n → f k = 0) → sumN n f = 0
  | 0, _, _ => rfl
  | n + 1, f, h => by
    show sumN n f + f n = 0
    rw [sumN_zero fun k hk => h k (Nat.lt_succ_of_lt hk), h n (Nat.lt_succ_self n)]
    rfl
theorem sumN_add (f g : Nat → Int) : ∀ n : Nat, sumN n (fun k => f k + g k) = sumN n f + sumN n g
  | 0 => rfl
  | n + 1 => by
    show sumN n (fun k => f k + g k) + (f n + g n) = (sumN n f + f n) + (sumN n g + g n)
    rw [sumN_add f g n]
    omega
theorem sumN_mul (c : Int) (f : Nat → Int) : ∀ n : Nat, sumN n (fun k => c * f k) = c * sumN n f
  | 0 => by
    show (0 : Int) = c * 0
    rw [Int.mul_zero]
  | n + 1 => by
    show sumN n (fun k => c * f k) + c * f n = c * (sumN n f + f n)
    rw [sumN_mul c f n, Int.mul_add]
theorem sumN_one {f : Nat → Int} {a : Nat} : ∀ {n : Nat}, a < n → (∀ k, k < n → k ≠ a → f k = 0) → sumN n f = f a
  | 0, h, _ => absurd h (Nat.not_lt_zero a)
  | n + 1, h, z => by
    show sumN n f + f n = f a
    by_cases e : a = n
    · rw [sumN_zero fun k hk => z k (Nat.lt_succ_of_lt hk) (by omega), e]
      omega
    · rw [sumN_one (by omega) fun k hk hn => z k (Nat.lt_succ_of_lt hk) hn, z n (Nat.lt_succ_self n) (fun q => e q.symm)]
      omega
theorem sumN_dvd {p : Int} {f : Nat → Int} : ∀ {n : Nat}, (∀ k, k < n → p ∣ f k) → p ∣ sumN n f
  | 0, _ => ⟨0, (Int.mul_zero p).symm⟩
  | n + 1, h => Int.dvd_add (sumN_dvd fun k hk => h k (Nat.lt_succ_of_lt hk)) (h n (Nat.lt_succ_self n))

/-- what a functional tells of a row -/
def dot (n : Nat) (u f : Nat → Int) : Int := sumN n fun k => u k * f k
theorem dot_add (n : Nat) (u f g : Nat → Int) : dot n u (fun k => f k + g k) = dot n u f + dot n u g := by
  unfold dot
  rw [← sumN_add]
  exact sumN_congr fun k _ => Int.mul_add _ _ _
theorem dot_mul (n : Nat) (u f : Nat → Int) (c : Int) : dot n u (fun k => c * f k) = c * dot n u f := by
  unfold dot
  rw [← sumN_mul]
  exact sumN_congr fun k _ => Int.mul_left_comm _ _ _
def Van (p : Int) (n : Nat) (u f : Nat → Int) : Prop := p ∣ dot n u f
theorem van_mod {p : Int} {n : Nat} {u f : Nat → Int} : Van p n u (fun k => f k % p) ↔ Van p n u f := by
  have e : dot n u f = dot n u (fun k => f k % p) + p * dot n u (fun k => f k / p) := by
    rw [← dot_mul, ← dot_add]
    unfold dot
    exact sumN_congr fun k _ => by
      show u k * f k = u k * (f k % p + p * (f k / p))
      rw [Int.emod_add_mul_ediv (f k) p]
  unfold Van
  rw [e]
  constructor
  · exact fun h => Int.dvd_add h ⟨_, rfl⟩
  · intro h
    have := Int.dvd_sub h (⟨dot n u (fun k => f k / p), rfl⟩ : p ∣ p * dot n u (fun k => f k / p))
    rw [Int.add_sub_cancel] at this
    exact this
/-- f less m times g -/
def less (p : Int) (f g : Nat → Int) (m : Int) : Nat → Int := fun k => (f k - m * g k) % p
theorem van_less {p : Int} {n : Nat} {u f g : Nat → Int} (m : Int) (h : Van p n u g) : Van p n u (less p f g m) ↔ Van p n u f := by
  have e : Van p n u (less p f g m) ↔ Van p n u (fun k => f k + (-m) * g k) := by
    have : less p f g m = fun k => (f k + (-m) * g k) % p := by
      funext k
      show (f k - m * g k) % p = (f k + (-m) * g k) % p
      rw [Int.neg_mul, Int.sub_eq_add_neg]
    rw [this]
    exact van_mod
  rw [e]
  unfold Van
  rw [dot_add, dot_mul]
  have d : p ∣ (-m) * dot n u g := Int.dvd_trans h ⟨-m, Int.mul_comm _ _⟩
  constructor
  · intro q
    have := Int.dvd_sub q d
    rw [Int.add_sub_cancel] at this
    exact this
  · exact fun q => Int.dvd_add q d
/-- the numbers of a row -/
structure RowOk (p : Int) (n : Nat) (f : Nat → Int) : Prop where
  lo : ∀ k, 0 ≤ f k
  hi : ∀ k, f k < p
  out : ∀ k, n ≤ k → f k = 0
theorem RowOk.mod {p : Int} {n : Nat} {f : Nat → Int} (r : RowOk p n f) (k : Nat) : f k % p = f k := Int.emod_eq_of_lt (r.lo k) (r.hi k)
theorem rowOk_less {p : Int} {n : Nat} {f g : Nat → Int} (hp : 0 < p) (rf : RowOk p n f) (rg : RowOk p n g) (m : Int) : RowOk p n (less p f g m) where
  lo := fun k => Int.emod_nonneg _ (by omega)
  hi := fun k => Int.emod_lt_of_pos _ hp
  out := fun k hk => by
    show (f k - m * g k) % p = 0
    rw [rf.out k hk, rg.out k hk, Int.mul_zero]
    exact Int.zero_emod p

abbrev Head := Nat × (Nat → Int)
/-- heads that are reduced -/
structure Red (p : Int) (n : Nat) (L : List Head) : Prop where
  nd : (L.map (·.1)).Nodup
  lt : ∀ h ∈ L, h.1 < n
  ok : ∀ h ∈ L, RowOk p n h.2
  one : ∀ h ∈ L, h.2 h.1 = 1
  low : ∀ h ∈ L, ∀ k, k < h.1 → h.2 k = 0
  oth : ∀ h ∈ L, ∀ g ∈ L, g.1 ≠ h.1 → h.2 g.1 = 0
theorem red_nil (p : Int) (n : Nat) : Red p n [] := ⟨List.nodup_nil, by simp, by simp, by simp, by simp, by simp⟩
def Ann (p : Int) (n : Nat) (L : List Head) (u : Nat → Int) : Prop := ∀ h ∈ L, Van p n u h.2

/-- f' is f less what heads tell -/
structure Clr (p : Int) (n : Nat) (L : List Head) (f f' : Nat → Int) : Prop where
  ok : RowOk p n f'
  same : ∀ u, Ann p n L u → (Van p n u f' ↔ Van p n u f)
theorem clr_start {p : Int} {n : Nat} {L : List Head} {f : Nat → Int} (h : RowOk p n f) : Clr p n L f f := ⟨h, fun _ _ => Iff.rfl⟩
theorem clr_step {p : Int} {n : Nat} {L : List Head} {f f' : Nat → Int} (hp : 0 < p) (R : Red p n L) (c : Clr p n L f f') {h : Head} (hh : h ∈ L) : Clr p n L f (less p f' h.2 (f' h.1)) :=
  ⟨rowOk_less hp c.ok (R.ok h hh) _, fun u hu => (van_less _ (hu h hh)).trans (c.same u hu)⟩
/-- a step clears its head's spot and leaves the other heads' spots -/
theorem step_at {p : Int} {n : Nat} {L : List Head} {f f' : Nat → Int} (R : Red p n L) (c : Clr p n L f f') {h : Head} (hh : h ∈ L) : less p f' h.2 (f' h.1) h.1 = 0 := by
  show (f' h.1 - f' h.1 * h.2 h.1) % p = 0
  rw [R.one h hh, Int.mul_one, Int.sub_self]
  exact Int.zero_emod p
theorem step_oth {p : Int} {n : Nat} {L : List Head} {f f' : Nat → Int} (R : Red p n L) (c : Clr p n L f f') {h g : Head} (hh : h ∈ L) (hg : g ∈ L) (hn : g.1 ≠ h.1) : less p f' h.2 (f' h.1) g.1 = f' g.1 := by
  show (f' g.1 - f' h.1 * h.2 g.1) % p = f' g.1
  rw [R.oth h hh g hg hn, Int.mul_zero, Int.sub_zero]
  exact c.ok.mod _
/-- how many heads' spots are not cleared -/
def left (L : List Head) (f : Nat → Int) : Nat := (L.filter fun h => decide (f h.1 ≠ 0)).length
theorem filter_less {α : Type} {P Q : α → Bool} : ∀ {l : List α}, (∀ x ∈ l, Q x = true → P x = true) → (∃ x ∈ l, P x = true ∧ Q x = false) → (l.filter Q).length < (l.filter P).length
  | [], _, ⟨x, hx, _⟩ => absurd hx (by simp)
  | a :: l, hs, ⟨x, hx, hP, hQ⟩ => by
    have le : ∀ {l : List α}, (∀ x ∈ l, Q x = true → P x = true) → (l.filter Q).length ≤ (l.filter P).length := fun {l} h => by
      induction l with
      | nil => exact Nat.le_refl _
      | cons b l ih =>
        have ih := ih fun x hx => h x (List.mem_cons_of_mem _ hx)
        have hb := h b List.mem_cons_self
        rw [List.filter_cons, List.filter_cons]
        cases eq : Q b with
        | true =>
          rw [hb eq]
          simp only [if_true, List.length_cons]
          omega
        | false =>
          cases ep : P b with
          | true =>
            simp only [if_true, Bool.false_eq_true, if_false, List.length_cons]
            omega
          | false =>
            simp only [Bool.false_eq_true, if_false]
            exact ih
    have hs' : ∀ x ∈ l, Q x = true → P x = true := fun x hx => hs x (List.mem_cons_of_mem _ hx)
    rw [List.filter_cons, List.filter_cons]
    rcases List.mem_cons.mp hx with e | hx'
    · subst e
      rw [hP, hQ]
      simp only [if_true, Bool.false_eq_true, if_false, List.length_cons]
      have := le hs'
      omega
    · have ih := filter_less hs' ⟨x, hx', hP, hQ⟩
      have ha := hs a List.mem_cons_self
      cases eq : Q a with
      | true =>
        rw [ha eq]
        simp only [if_true, List.length_cons]
        omega
      | false =>
        cases ep : P a with
        | true =>
          simp only [if_true, Bool.false_eq_true, if_false, List.length_cons]
          omega
        | false =>
          simp only [Bool.false_eq_true, if_false]
          exact ih
theorem left_step {p : Int} {n : Nat} {L : List Head} {f f' : Nat → Int} (R : Red p n L) (c : Clr p n L f f') {h : Head} (hh : h ∈ L) (hz : f' h.1 ≠ 0) : left L (less p f' h.2 (f' h.1)) < left L f' := by
  refine filter_less (fun g hg q => ?_) ⟨h, hh, decide_eq_true hz, ?_⟩
  · have q := of_decide_eq_true q
    by_cases e : g.1 = h.1
    · rw [e, step_at R c hh] at q
      exact absurd rfl q
    · rw [step_oth R c hh hg e] at q
      exact decide_eq_true q
  · rw [step_at R c hh]
    decide
end KzM
end
section
set_option linter.all false
/-! the mathematics, 3: series and polynomials -/
namespace KzM
abbrev Ser := Nat → Int
def sh (f : Ser) : Ser := fun k => f (k + 1)
def conv : Ser → Ser → Nat → Int
  | f, g, 0 => f 0 * g 0
  | f, g, n + 1 => f 0 * g (n + 1) + conv (sh f) g n
theorem conv_addL (f h g : Ser) : ∀ n, conv (fun k => f k + h k) g n = conv f g n + conv h g n := by
  intro n
  induction n generalizing f h with
  | zero => show (f 0 + h 0) * g 0 = _; rw [Int.add_mul]; rfl
  | succ n ih =>
    show (f 0 + h 0) * g (n + 1) + conv (fun k => sh f k + sh h k) g n = (f 0 * g (n + 1) + conv (sh f) g n) + (h 0 * g (n + 1) + conv (sh h) g n)
    rw [ih (sh f) (sh h), Int.add_mul]
    omega
theorem conv_mulL (c : Int) (f g : Ser) : ∀ n, conv (fun k => c * f k) g n = c * conv f g n := by
  intro n
  induction n generalizing f with
  | zero => show c * f 0 * g 0 = c * (f 0 * g 0); rw [Int.mul_assoc]
  | succ n ih =>
    show c * f 0 * g (n + 1) + conv (fun k => c * sh f k) g n = c * (f 0 * g (n + 1) + conv (sh f) g n)
    rw [ih (sh f), Int.mul_add, Int.mul_assoc]
theorem conv_addR (f g h : Ser) : ∀ n, conv f (fun k => g k + h k) n = conv f g n + conv f h n := by
  intro n
  induction n generalizing f with
  | zero => show f 0 * (g 0 + h 0) = _; rw [Int.mul_add]; rfl
  | succ n ih =>
    show f 0 * (g (n + 1) + h (n + 1)) + conv (sh f) (fun k => g k + h k) n = (f 0 * g (n + 1) + conv (sh f) g n) + (f 0 * h (n + 1) + conv (sh f) h n)
    rw [ih (sh f), Int.mul_add]
    omega
theorem conv_mulR (c : Int) (f g : Ser) : ∀ n, conv f (fun k => c * g k) n = c * conv f g n := by
  intro n
  induction n generalizing f with
  | zero => show f 0 * (c * g 0) = c * (f 0 * g 0); rw [Int.mul_left_comm]
  | succ n ih =>
    show f 0 * (c * g (n + 1)) + conv (sh f) (fun k => c * g k) n = c * (f 0 * g (n + 1) + conv (sh f) g n)
    rw [ih (sh f), Int.mul_add, Int.mul_left_comm]
theorem conv_zeroL (g : Ser) {f : Ser} (h : ∀ k, f k = 0) : ∀ n, conv f g n = 0 := by
  intro n
  induction n generalizing f with
  | zero => show f 0 * g 0 = 0; rw [h, Int.zero_mul]
  | succ n ih => show f 0 * g (n + 1) + conv (sh f) g n = 0; rw [h, Int.zero_mul, ih (f := sh f) (fun k => h (k + 1))]; rfl
theorem conv_right (f g : Ser) : ∀ n, conv f g (n + 1) = conv f (sh g) n + f (n + 1) * g 0 := by
  intro n
  induction n generalizing f with
  | zero => show f 0 * g 1 + f 1 * g 0 = f 0 * g 1 + f 1 * g 0; rfl
  | succ n ih =>
    show f 0 * g (n + 2) + conv (sh f) g (n + 1) = (f 0 * g (n + 2) + conv (sh f) (sh g) n) + f (n + 2) * g 0
    rw [ih (sh f)]
    show _ + (_ + f (n + 2) * g 0) = _
    omega
theorem conv_comm (f g : Ser) : ∀ n, conv f g n = conv g f n := by
  intro n
  induction n generalizing f g with
  | zero => exact Int.mul_comm _ _
  | succ n ih =>
    show f 0 * g (n + 1) + conv (sh f) g n = conv g f (n + 1)
    rw [conv_right, ih (sh f) g, Int.mul_comm]
    omega
theorem sh_conv (f g : Ser) : sh (conv f g) = fun n => f 0 * sh g n + conv (sh f) g n := rfl
theorem conv_assoc (f g h : Ser) : ∀ n, conv (conv f g) h n = conv f (conv g h) n := by
  intro n
  induction n generalizing f with
  | zero => exact Int.mul_assoc _ _ _
  | succ n ih =>
    show f 0 * g 0 * h (n + 1) + conv (sh (conv f g)) h n = f 0 * conv g h (n + 1) + conv (sh f) (conv g h) n
    rw [sh_conv, conv_addL (fun n => f 0 * sh g n) (conv (sh f) g) h, conv_mulL, ih (sh f)]
    show _ = f 0 * (g 0 * h (n + 1) + conv (sh g) h n) + _
    rw [Int.mul_add, ← Int.mul_assoc]
    omega
def one : Ser := fun k => if k = 0 then 1 else 0
theorem conv_one (g : Ser) : ∀ n, conv one g n = g n
  | 0 => by show 1 * g 0 = g 0; rw [Int.one_mul]
  | n + 1 => by
    show 1 * g (n + 1) + conv (sh one) g n = g (n + 1)
    rw [conv_zeroL g (fun k => by show (if k + 1 = 0 then (1 : Int) else 0) = 0; rw [if_neg (by omega)]), Int.one_mul]
    omega
theorem conv_congrL {f g : Ser} (h : Ser) (e : ∀ k, f k = g k) (n : Nat) : conv f h n = conv g h n := by
  have : f = g := funext e
  rw [this]
theorem conv_congrR (h : Ser) {f g : Ser} (e : ∀ k, f k = g k) (n : Nat) : conv h f n = conv h g n := by
  have : f = g := funext e
  rw [this]
/-- what conv asks of its second factor -/
theorem conv_upto (f : Ser) {g h : Ser} : ∀ {n : Nat}, (∀ k, k ≤ n → g k = h k) → conv f g n = conv f h n := by
  intro n
  induction n generalizing f with
  | zero => intro e; show f 0 * g 0 = f 0 * h 0; rw [e 0 (Nat.le_refl _)]
  | succ n ih =>
    intro e
    show f 0 * g (n + 1) + conv (sh f) g n = f 0 * h (n + 1) + conv (sh f) h n
    rw [e (n + 1) (Nat.le_refl _), ih (sh f) fun k hk => e k (by omega)]
/-- a first coefficient of 1 may be cancelled -/
theorem conv_cancel {f g h : Ser} (f0 : f 0 = 1) {m : Nat} (e : ∀ n, n ≤ m → conv f g n = conv f h n) : ∀ n, n ≤ m → g n = h n := by
  intro n
  induction n using Nat.strongRecOn with
  | ind n ih =>
    intro hn
    have en := e n hn
    cases n with
    | zero =>
      have : f 0 * g 0 = f 0 * h 0 := en
      rw [f0, Int.one_mul, Int.one_mul] at this
      exact this
    | succ n =>
      have en : f 0 * g (n + 1) + conv (sh f) g n = f 0 * h (n + 1) + conv (sh f) h n := en
      rw [conv_upto (sh f) (g := g) (h := h) fun k hk => ih k (by omega) (by omega), f0, Int.one_mul, Int.one_mul] at en
      omega
theorem conv_cancel' {f g h : Ser} (f0 : f 0 = 1) (e : ∀ n, conv f g n = conv f h n) (n : Nat) : g n = h n := conv_cancel f0 (m := n) (fun k _ => e k) n (Nat.le_refl n)
/-- the top -/
theorem conv_top {f g : Ser} {a b : Nat} (hf : ∀ k, a < k → f k = 0) (hg : ∀ k, b < k → g k = 0) : conv f g (a + b) = f a * g b := by
  induction a generalizing f with
  | zero =>
    rw [Nat.zero_add]
    cases b with
    | zero => rfl
    | succ b =>
      show f 0 * g (b + 1) + conv (sh f) g b = _
      rw [conv_zeroL g (f := sh f) fun k => hf (k + 1) (by omega)]
      omega
  | succ a ih =>
    have e : a + 1 + b = (a + b) + 1 := by omega
    rw [e]
    show f 0 * g (a + b + 1) + conv (sh f) g (a + b) = _
    rw [ih (f := sh f) fun k hk => hf (k + 1) (by omega), hg _ (by omega), Int.mul_zero, Int.zero_add]
    rfl
theorem conv_out {f g : Ser} {a b : Nat} (hf : ∀ k, a < k → f k = 0) (hg : ∀ k, b < k → g k = 0) : ∀ {n : Nat}, a + b < n → conv f g n = 0 := by
  induction a generalizing f with
  | zero =>
    intro n hn
    cases n with
    | zero => omega
    | succ n =>
      show f 0 * g (n + 1) + conv (sh f) g n = 0
      rw [conv_zeroL g (f := sh f) (fun k => hf (k + 1) (by omega)), hg _ (by omega), Int.mul_zero]
      rfl
  | succ a ih =>
    intro n hn
    cases n with
    | zero => omega
    | succ n =>
      show f 0 * g (n + 1) + conv (sh f) g n = 0
      rw [ih (f := sh f) (fun k hk => hf (k + 1) (by omega)) (by omega), hg _ (by omega), Int.mul_zero]
      rfl
/-! ### lists -/
def co (l : List Int) : Ser := fun k => l.getD k 0
theorem co_out {l : List Int} {k : Nat} (h : l.length ≤ k) : co l k = 0 := by
  unfold co
  rw [List.getD_eq_getElem?_getD, List.getElem?_eq_none h]
  rfl
theorem co_at {l : List Int} {k : Nat} {z : Int} (h : l[k]? = some z) : co l k = z := by
  unfold co
  rw [List.getD_eq_getElem?_getD, h]
  rfl
theorem co_nil (k : Nat) : co [] k = 0 := rfl
theorem co_ext {l m : List Int} (hl : l.length = m.length) (h : ∀ k, co l k = co m k) : l = m := by
  apply List.ext_getElem? 
  intro k
  by_cases hk : k < l.length
  · have e := h k
    unfold co at e
    rw [List.getD_eq_getElem?_getD, List.getD_eq_getElem?_getD, List.getElem?_eq_getElem hk, List.getElem?_eq_getElem (by omega)] at e
    rw [List.getElem?_eq_getElem hk, List.getElem?_eq_getElem (by omega)]
    exact congrArg some e
  · rw [List.getElem?_eq_none (by omega), List.getElem?_eq_none (by omega)]
def Trimd (l : List Int) : Prop := l ≠ [] → co l (l.length - 1) ≠ 0
structure TrimOf (l r : List Int) : Prop where
  pre : r = l.take r.length
  co : ∀ k, co r k = co l k
  tr : Trimd r
theorem TrimOf.len {l r : List Int} (t : TrimOf l r) : r.length ≤ l.length := by
  have := congrArg List.length t.pre
  rw [List.length_take] at this
  omega
/-- all entries below 2 ^ b -/
def Bits (b : Nat) (l : List Int) : Prop := ∀ k, (co l k).natAbs < 2 ^ b
theorem Bits.mono {a b : Nat} {l : List Int} (h : Bits a l) (hab : a ≤ b) : Bits b l := fun k => Nat.lt_of_lt_of_le (h k) (Nat.pow_le_pow_right (by decide) hab)
theorem Bits.trim {b : Nat} {l r : List Int} (h : Bits b l) (t : TrimOf l r) : Bits b r := fun k => by
  rw [t.co]
  exact h k
/-! ### one step of a division -/
def LeftRel (a b r : List Int) : Prop := ∃ (c : Int) (q : Ser) (m : Nat), c ≠ 0 ∧ (∀ k, m < k → q k = 0) ∧ ∀ k, c * co a k = conv q (co b) k + co r k
theorem left_refl (a b : List Int) : LeftRel a b a := ⟨1, fun _ => 0, 0, by decide, fun _ _ => rfl, fun k => by rw [conv_zeroL (co b) (fun _ => rfl)]; omega⟩
/-- t ^ d -/
def mono (d : Nat) (c : Int) : Ser := fun k => if k = d then c else 0
theorem conv_mono (d : Nat) (c : Int) (g : Ser) : ∀ n, conv (mono d c) g n = if d ≤ n then c * g (n - d) else 0 := by
  intro n
  induction n generalizing d with
  | zero =>
    show (if 0 = d then c else 0) * g 0 = _
    by_cases e : d = 0
    · subst e
      simp
    · rw [if_neg fun q => e q.symm, if_neg (by omega), Int.zero_mul]
  | succ n ih =>
    show (if 0 = d then c else 0) * g (n + 1) + conv (sh (mono d c)) g n = _
    cases d with
    | zero =>
      rw [conv_zeroL g (f := sh (mono 0 c)) fun k => by show (if k + 1 = 0 then c else 0) = 0; rw [if_neg (by omega)]]
      simp
    | succ d =>
      have : sh (mono (d + 1) c) = mono d c := by
        funext k
        show (if k + 1 = d + 1 then c else 0) = if k = d then c else 0
        simp
      rw [this, ih d, if_neg (by omega), Int.zero_mul]
      by_cases h : d ≤ n
      · rw [if_pos h, if_pos (by omega), Int.zero_add]
        congr 2
        omega
      · rw [if_neg h, if_neg (by omega)]
        rfl
theorem left_step' {a b f g r : List Int} {here there : Int} {d : Nat} (h : LeftRel a b f) (ht : there ≠ 0) (hg : ∀ k, co g k = there * co f k - if d ≤ k then here * co b (k - d) else 0) (hr : ∀ k, co r k = co g k) : LeftRel a b r := by
  obtain ⟨c, q, m, hc, hq, e⟩ := h
  refine ⟨there * c, fun k => there * q k + mono d here k, m + d, Int.mul_ne_zero ht hc, fun k hk => ?_, fun k => ?_⟩
  · show there * q k + (if k = d then here else 0) = 0
    rw [hq k (by omega), if_neg (by omega), Int.mul_zero]
    rfl
  · rw [conv_addL (fun k => there * q k) (mono d here), conv_mulL, conv_mono, Int.mul_assoc, e k, hr, hg, Int.mul_add]
    omega
end KzM
end
section
set_option linter.all false
/-! the mathematics, 4: unrolling, lists cut -/
namespace KzM
theorem sumN_first (F : Nat → Int) : ∀ n, sumN (n + 1) F = F 0 + sumN n (fun i => F (i + 1))
  | 0 => by show 0 + F 0 = F 0 + 0; omega
  | n + 1 => by
    show sumN (n + 1) F + F (n + 1) = F 0 + (sumN n (fun i => F (i + 1)) + F (n + 1))
    rw [sumN_first F n]
    omega
theorem conv_sum (f g : Ser) : ∀ n, conv f g n = sumN (n + 1) (fun i => f i * g (n - i)) := by
  intro n
  induction n generalizing f with
  | zero => show f 0 * g 0 = 0 + f 0 * g 0; omega
  | succ n ih =>
    rw [sumN_first]
    show f 0 * g (n + 1) + conv (sh f) g n = f 0 * g (n + 1 - 0) + _
    rw [ih (sh f), Nat.sub_zero]
    congr 1
    refine sumN_congr fun i hi => ?_
    show f (i + 1) * g (n - i) = f (i + 1) * g (n + 1 - (i + 1))
    congr 2
    omega
theorem sumN_cut {F : Nat → Int} {m : Nat} : ∀ {n : Nat}, m ≤ n → (∀ k, m ≤ k → k < n → F k = 0) → sumN n F = sumN m F
  | 0, h, _ => by
    have : m = 0 := by omega
    rw [this]
  | n + 1, h, z => by
    by_cases e : m = n + 1
    · rw [e]
    · show sumN n F + F n = sumN m F
      rw [sumN_cut (by omega) fun k h1 h2 => z k h1 (by omega), z n (by omega) (by omega)]
      omega
/-- the new item of an unrolling -/
theorem unr_item {below r : List Int} {k m : Nat} {item ov : Int} (hr : r.length = k) (b0 : co below 0 = 1) (hm : m = if below.length - 1 < k then below.length - 1 else k) (hi : item = ov - sumN m (fun i => co below (1 + i) * co r (k - (1 + i)))) :
    conv (co below) (co (r ++ [item])) k = ov := by
  have at_ : ∀ j, j < k → co (r ++ [item]) j = co r j := fun j hj => by
    unfold co
    rw [List.getD_eq_getElem?_getD, List.getD_eq_getElem?_getD, List.getElem?_append_left (by omega)]
  have new : co (r ++ [item]) k = item := co_at (by rw [← hr, List.getElem?_append_right (Nat.le_refl _)]; simp)
  cases k with
  | zero =>
    have : m = 0 := by
      rw [hm]
      split <;> omega
    rw [this] at hi
    show co below 0 * co (r ++ [item]) 0 = ov
    rw [b0, new, hi]
    show 1 * (ov - 0) = ov
    omega
  | succ k =>
    show co below 0 * co (r ++ [item]) (k + 1) + conv (sh (co below)) (co (r ++ [item])) k = ov
    rw [b0, new, conv_upto (sh (co below)) (g := co (r ++ [item])) (h := co r) fun j hj => at_ j (by omega), conv_sum]
    have e : sumN (k + 1) (fun i => sh (co below) i * co r (k - i)) = sumN m (fun i => co below (1 + i) * co r (k + 1 - (1 + i))) := by
      have e1 : sumN (k + 1) (fun i => sh (co below) i * co r (k - i)) = sumN (k + 1) (fun i => co below (1 + i) * co r (k + 1 - (1 + i))) := sumN_congr fun i hi => by
        show co below (i + 1) * _ = _
        rw [Nat.add_comm i 1]
        congr 2
        omega
      rw [e1]
      refine sumN_cut (by rw [hm]; split <;> omega) fun i h1 h2 => ?_
      have : below.length - 1 < k + 1 := by
        by_cases z : below.length - 1 < k + 1
        · exact z
        · rw [hm, if_neg z] at h1
          omega
      rw [hm, if_pos this] at h1
      rw [co_out (by omega), Int.zero_mul]
    rw [e, hi]
    omega
/-- an unrolling keeps what it has -/
theorem unr_keep {below r : List Int} {item : Int} {j : Nat} (hj : j < r.length) : conv (co below) (co (r ++ [item])) j = conv (co below) (co r) j :=
  conv_upto _ fun k hk => by
    unfold co
    rw [List.getD_eq_getElem?_getD, List.getD_eq_getElem?_getD, List.getElem?_append_left (by omega)]
/-! ### cutting zeros off -/
theorem trim_start (l : List Int) (h : ¬ (l ≠ [] ∧ co l (l.length - 1) = 0)) : Trimd l := fun n z => h ⟨n, z⟩
theorem cut_co {l : List Int} {m : Nat} (h : ∀ k, m ≤ k → co l k = 0) (k : Nat) : co (l.take m) k = co l k := by
  by_cases hk : k < m
  · unfold co
    rw [List.getD_eq_getElem?_getD, List.getD_eq_getElem?_getD, List.getElem?_take, if_pos hk]
  · rw [h k (by omega), co_out (by rw [List.length_take]; omega)]
theorem last_co {l : List Int} (h : l ≠ []) : l[l.length - 1]? = some (co l (l.length - 1)) := by
  have : 0 < l.length := List.length_pos_iff.mpr h
  unfold co
  rw [List.getD_eq_getElem?_getD, List.getElem?_eq_getElem (by omega)]
  rfl
theorem co_take_succ {l : List Int} {i : Nat} {z : Int} (h : l[i]? = some z) (k : Nat) : co (l.take (i + 1)) k = co (l.take i) k + mono i z k := by
  have hi := (List.getElem?_eq_some_iff.mp h).1
  unfold co mono
  rw [List.getD_eq_getElem?_getD, List.getD_eq_getElem?_getD, List.getElem?_take, List.getElem?_take]
  by_cases e : k = i
  · rw [if_pos (by omega), if_neg (by omega), if_pos e, e, h]
    show z = 0 + z
    omega
  · rw [if_neg e]
    by_cases lt : k < i
    · rw [if_pos (by omega), if_pos lt]
      omega
    · rw [if_neg (by omega), if_neg lt]
      rfl
theorem conv_take {one : List Int} (g : Ser) {i : Nat} {z : Int} (h : one[i]? = some z) (n : Nat) : conv (co (one.take (i + 1))) g n = conv (co (one.take i)) g n + if i ≤ n then z * g (n - i) else 0 := by
  rw [conv_congrL g (co_take_succ h) n, conv_addL (co (one.take i)) (mono i z) g, conv_mono]
theorem gcd_fmod (a b : Int) : Int.gcd b (a.fmod b) = Int.gcd a b := by
  have e : a.fmod b = a - b * a.fdiv b := by
    have := Int.fmod_def a b
    exact this
  rw [e, Int.gcd_comm a b, Int.sub_eq_add_neg, ← Int.mul_neg]
  exact Int.gcd_add_mul_left_right b a (-a.fdiv b)
theorem fmod_lt {a b : Int} (h : b ≠ 0) : (a.fmod b).natAbs < b.natAbs := by
  by_cases hb : 0 < b
  · have h1 := Int.fmod_nonneg_of_pos a hb
    have h2 := Int.fmod_lt_of_pos a hb
    omega
  · have e : a.fmod b = -((-a).fmod (-b)) := by
      rw [Int.fmod_def, Int.fmod_def, Int.neg_fdiv_neg]
      rw [Int.neg_mul]
      omega
    have h1 := Int.fmod_nonneg_of_pos (-a) (show 0 < -b by omega)
    have h2 := Int.fmod_lt_of_pos (-a) (show 0 < -b by omega)
    omega
def gcdTo (l : List Int) : Nat := l.foldl (fun g x => Int.gcd g x) 0
theorem gcd_snoc (l : List Int) (x : Int) : gcdTo (l ++ [x]) = Int.gcd (gcdTo l) x := by
  unfold gcdTo
  rw [List.foldl_append]
  rfl
end KzM
end
section
set_option linter.all false
/-! the mathematics, 5: what a Euclid of two lists ends with -/
namespace KzM
def Fin_ (m : Nat) (f : Ser) : Prop := ∀ k, m < k → f k = 0
theorem Fin_.mono {a b : Nat} {f : Ser} (h : Fin_ a f) (l : a ≤ b) : Fin_ b f := fun k hk => h k (by omega)
theorem fin_sh {m : Nat} {f : Ser} (h : Fin_ (m + 1) f) : Fin_ m (sh f) := fun k hk => h (k + 1) (by omega)
theorem fin_conv {a b : Nat} {f g : Ser} (hf : Fin_ a f) (hg : Fin_ b g) : Fin_ (a + b) (conv f g) := fun k hk => conv_out hf hg hk
theorem fin_co (l : List Int) : Fin_ l.length (co l) := fun k hk => co_out (by omega)
/-! ### values -/
def evr (r : Int) : Nat → Ser → Int
  | 0, f => f 0
  | m + 1, f => f 0 + r * evr r m (sh f)
theorem evr_add (r : Int) : ∀ (m : Nat) (f g : Ser), evr r m (fun k => f k + g k) = evr r m f + evr r m g
  | 0, _, _ => rfl
  | m + 1, f, g => by
    show f 0 + g 0 + r * evr r m (fun k => sh f k + sh g k) = _
    rw [evr_add r m (sh f) (sh g), Int.mul_add]
    show _ = f 0 + r * evr r m (sh f) + (g 0 + r * evr r m (sh g))
    omega
theorem evr_mul (r c : Int) : ∀ (m : Nat) (f : Ser), evr r m (fun k => c * f k) = c * evr r m f
  | 0, _ => rfl
  | m + 1, f => by
    show c * f 0 + r * evr r m (fun k => c * sh f k) = c * (f 0 + r * evr r m (sh f))
    rw [evr_mul r c m (sh f), Int.mul_add, Int.mul_left_comm]
theorem evr_zero (r : Int) : ∀ (m : Nat) {f : Ser}, (∀ k, f k = 0) → evr r m f = 0
  | 0, _, h => h 0
  | m + 1, f, h => by
    show f 0 + r * evr r m (sh f) = 0
    rw [evr_zero r m (f := sh f) (fun k => h (k + 1)), h 0, Int.mul_zero]
    rfl
theorem evr_stay (r : Int) : ∀ {a m : Nat} {f : Ser}, Fin_ a f → a ≤ m → evr r m f = evr r a f
  | 0, 0, _, _, _ => rfl
  | 0, m + 1, f, h, _ => by
    show f 0 + r * evr r m (sh f) = f 0
    rw [evr_zero r m (f := sh f) fun k => h (k + 1) (by omega), Int.mul_zero]
    omega
  | a + 1, 0, _, _, l => by omega
  | a + 1, m + 1, f, h, l => by
    show f 0 + r * evr r m (sh f) = f 0 + r * evr r a (sh f)
    rw [evr_stay r (fin_sh h) (by omega)]
theorem evr_conv (r : Int) {b : Nat} {g : Ser} (hg : Fin_ b g) : ∀ {a : Nat} {f : Ser}, Fin_ a f → evr r (a + b) (conv f g) = evr r a f * evr r b g
  | 0, f, hf => by
    have : conv f g = fun k => f 0 * g k := by
      funext k
      cases k with
      | zero => rfl
      | succ k =>
        show f 0 * g (k + 1) + conv (sh f) g k = _
        rw [conv_zeroL g (f := sh f) fun j => hf (j + 1) (by omega)]
        omega
    rw [this, evr_mul, Nat.zero_add]
    rfl
  | a + 1, f, hf => by
    have e : a + 1 + b = (a + b) + 1 := by omega
    have ih := evr_conv r hg (fin_sh hf)
    rw [e]
    show conv f g 0 + r * evr r (a + b) (sh (conv f g)) = (f 0 + r * evr r a (sh f)) * evr r b g
    rw [sh_conv, evr_add r (a + b) (fun n => f 0 * sh g n) (conv (sh f) g), evr_mul, ih]
    have e2 : evr r b g = evr r (a + b + 1) g := (evr_stay r hg (by omega)).symm
    have e3 : evr r (a + b + 1) g = g 0 + r * evr r (a + b) (sh g) := rfl
    show f 0 * g 0 + r * (f 0 * evr r (a + b) (sh g) + evr r a (sh f) * evr r b g) = _
    rw [Int.add_mul, Int.mul_add, Int.mul_assoc r (evr r a (sh f))]
    have : f 0 * evr r b g = f 0 * g 0 + r * (f 0 * evr r (a + b) (sh g)) := by
      rw [e2, e3, Int.mul_add, Int.mul_left_comm]
    rw [this]
    omega
theorem evr_snoc (r : Int) : ∀ (m : Nat) (f : Ser), evr r (m + 1) f = evr r m f + f (m + 1) * r ^ (m + 1)
  | 0, f => by
    show f 0 + r * f 1 = f 0 + f 1 * r ^ 1
    rw [Int.pow_succ, Int.pow_zero, Int.one_mul, Int.mul_comm]
  | m + 1, f => by
    show f 0 + r * evr r (m + 1) (sh f) = (f 0 + r * evr r m (sh f)) + f (m + 2) * r ^ (m + 2)
    rw [evr_snoc r m (sh f), Int.mul_add, Int.pow_succ r (m + 1)]
    show _ + (_ + r * (f (m + 2) * r ^ (m + 1))) = _ + f (m + 2) * (r ^ (m + 1) * r)
    have : r * (f (m + 2) * r ^ (m + 1)) = f (m + 2) * (r ^ (m + 1) * r) := by
      rw [Int.mul_comm r, Int.mul_assoc]
    rw [this]
    omega
/-! ### 1 + e t -/
def Pe (e : Int) : Ser := fun k => if k = 0 then 1 else if k = 1 then e else 0
theorem fin_P (e : Int) : Fin_ 1 (Pe e) := fun k hk => by
  unfold Pe
  rw [if_neg (by omega), if_neg (by omega)]
theorem conv_P (e : Int) (g : Ser) : ∀ n, conv (Pe e) g (n + 1) = g (n + 1) + e * g n
  | 0 => by
    show 1 * g 1 + e * g 0 = _
    rw [Int.one_mul]
  | n + 1 => by
    show 1 * g (n + 2) + (e * g (n + 1) + conv (sh (sh (Pe e))) g n) = _
    rw [conv_zeroL g (f := sh (sh (Pe e))) fun k => fin_P e (k + 2) (by omega), Int.one_mul, Int.add_zero]
def pw (e : Int) : Nat → Ser
  | 0 => one
  | m + 1 => conv (Pe e) (pw e m)
theorem pw_zero (e : Int) : ∀ m, pw e m 0 = 1
  | 0 => rfl
  | m + 1 => by
    show 1 * pw e m 0 = 1
    rw [pw_zero e m]
    rfl
theorem fin_pw (e : Int) : ∀ m, Fin_ m (pw e m)
  | 0 => fun k hk => if_neg (by omega)
  | m + 1 => by
    have := fin_conv (fin_P e) (fin_pw e m)
    rw [Nat.add_comm] at this
    exact this
theorem pw_add (e : Int) (a b : Nat) : pw e (a + b) = conv (pw e a) (pw e b) := by
  induction a with
  | zero =>
    funext k
    rw [Nat.zero_add]
    exact (conv_one _ k).symm
  | succ a ih =>
    funext k
    rw [Nat.add_right_comm]
    show conv (Pe e) (pw e (a + b)) k = conv (conv (Pe e) (pw e a)) (pw e b) k
    rw [ih, conv_assoc]
theorem pw_top (e : Int) : ∀ m, pw e m m = e ^ m
  | 0 => by rw [Int.pow_zero]; rfl
  | m + 1 => by
    show conv (Pe e) (pw e m) (m + 1) = _
    rw [conv_P, fin_pw e m (m + 1) (by omega), pw_top e m, Int.pow_succ, Int.mul_comm]
    omega
section
variable {e : Int} (he : e * e = 1)
include he
theorem evP : evr (-e) 1 (Pe e) = 0 := by
  show 1 + -e * e = 0
  rw [Int.neg_mul, he]
  rfl
theorem pow_unit (n : Nat) : (-e) ^ n ≠ 0 := by
  have h : (-e) * (-e) = 1 := by rw [Int.neg_mul_neg]; exact he
  induction n with
  | zero => rw [Int.pow_zero]; decide
  | succ n ih =>
    rw [Int.pow_succ]
    refine Int.mul_ne_zero ih fun z => ?_
    rw [z] at h
    cases h
/-- a root lets 1 + e t out -/
theorem root_out {m : Nat} {f : Ser} (hf : Fin_ m f) (z : evr (-e) m f = 0) : ∃ h, Fin_ m h ∧ ∀ k, f k = conv (Pe e) h k := by
  let h : Ser := fun n => Nat.rec (f 0) (fun n hn => f (n + 1) - e * hn) n
  have h0 : h 0 = f 0 := rfl
  have hs : ∀ n, h (n + 1) = f (n + 1) - e * h n := fun n => rfl
  have key : ∀ n, evr (-e) n f = h n * (-e) ^ n := fun n => by
    induction n with
    | zero => show f 0 = f 0 * (-e) ^ 0; rw [Int.pow_zero, Int.mul_one]
    | succ n ih =>
      rw [evr_snoc, ih, hs, Int.sub_mul, Int.pow_succ]
      have : e * h n * ((-e) ^ n * -e) = -(h n * (-e) ^ n) := by
        have : e * h n * ((-e) ^ n * -e) = (e * -e) * (h n * (-e) ^ n) := by
          rw [Int.mul_comm e (h n), Int.mul_comm ((-e) ^ n) (-e), Int.mul_assoc, ← Int.mul_assoc e (-e), Int.mul_left_comm]
        rw [this, Int.mul_neg, he, Int.neg_mul, Int.one_mul]
      rw [this]
      omega
  refine ⟨h, fun k hk => ?_, fun k => ?_⟩
  · have h1 := key k
    rw [evr_stay (-e) hf (by omega), z] at h1
    rcases Int.mul_eq_zero.mp h1.symm with h2 | h2
    · exact h2
    · exact absurd h2 (pow_unit he k)
  · cases k with
    | zero => show f 0 = 1 * h 0; rw [h0, Int.one_mul]
    | succ k =>
      rw [conv_P, hs]
      omega
end
/-! ### degrees -/
theorem degree {f : Ser} : ∀ {m : Nat}, Fin_ m f → (∃ k, f k ≠ 0) → ∃ a, f a ≠ 0 ∧ Fin_ a f
  | 0, h, ⟨k, hk⟩ => by
    by_cases e : k = 0
    · exact ⟨0, by rw [← e]; exact hk, h⟩
    · exact absurd (h k (by omega)) hk
  | m + 1, h, x => by
    by_cases e : f (m + 1) = 0
    · refine degree (m := m) (fun k hk => ?_) x
      by_cases q : k = m + 1
      · rw [q]; exact e
      · exact h k (by omega)
    · exact ⟨m + 1, e, h⟩
theorem conv_fun (f : Ser) {g h : Ser} (e : ∀ k, g k = h k) : conv f g = conv f h := by
  have : g = h := funext e
  rw [this]
/-- divisors of a power are powers -/
theorem pw_div {e : Int} (he : e * e = 1) : ∀ {m : Nat} {s : Int} {G u : Ser} {a b : Nat}, s ≠ 0 → Fin_ a G → Fin_ b u → (∀ k, s * pw e m k = conv G u k) → ∃ (g : Int) (i : Nat), g ≠ 0 ∧ i ≤ m ∧ ∀ k, G k = g * pw e i k
  | 0, s, G, u, a, b, hs, hG, hu, h => by
    have h0 := h 0
    have nz : G 0 * u 0 ≠ 0 := by
      have : s * 1 = G 0 * u 0 := h0
      rw [← this, Int.mul_one]
      exact hs
    have gz : G 0 ≠ 0 := fun z => nz (by rw [z, Int.zero_mul])
    have uz : u 0 ≠ 0 := fun z => nz (by rw [z, Int.mul_zero])
    obtain ⟨a', ga, fa⟩ := degree hG ⟨0, gz⟩
    obtain ⟨b', ub, fb⟩ := degree hu ⟨0, uz⟩
    have top := conv_top fa fb
    rw [← h (a' + b')] at top
    have : a' + b' = 0 := Decidable.byContradiction fun z => by
      have : pw e 0 (a' + b') = 0 := (if_neg z : (if a' + b' = 0 then (1 : Int) else 0) = 0)
      rw [this, Int.mul_zero] at top
      exact Int.mul_ne_zero ga ub top.symm
    have a0 : a' = 0 := by omega
    subst a0
    refine ⟨G 0, 0, gz, Nat.le_refl _, fun k => ?_⟩
    cases k with
    | zero => show G 0 = G 0 * 1; rw [Int.mul_one]
    | succ k =>
      rw [fa (k + 1) (by omega), show pw e 0 (k + 1) = 0 from (if_neg (by omega) : (if k + 1 = 0 then (1 : Int) else 0) = 0), Int.mul_zero]
  | m + 1, s, G, u, a, b, hs, hG, hu, h => by
    have hh : conv G u = fun k => s * pw e (m + 1) k := funext fun k => (h k).symm
    have ev : evr (-e) a G * evr (-e) b u = 0 := by
      have hb : m + 1 ≤ max (a + b) (m + 1) := by omega
      rw [← evr_conv (-e) hu hG, ← evr_stay (-e) (fin_conv hG hu) (m := max (a + b) (m + 1)) (by omega), hh, evr_mul]
      have : evr (-e) (max (a + b) (m + 1)) (pw e (m + 1)) = 0 := by
        rw [evr_stay (-e) (fin_pw e (m + 1)) hb]
        have := evr_conv (-e) (fin_pw e m) (fin_P e)
        rw [evP he, Int.zero_mul, Nat.add_comm] at this
        exact this
      rw [this, Int.mul_zero]
    rcases Int.mul_eq_zero.mp ev with z | z
    · obtain ⟨G', fG, eG⟩ := root_out he hG z
      have hG' : G = conv (Pe e) G' := funext eG
      have : ∀ k, s * pw e m k = conv G' u k := by
        have h2 : ∀ k, conv (Pe e) (fun k => s * pw e m k) k = conv (Pe e) (conv G' u) k := fun k => by
          rw [conv_mulR, ← conv_assoc, ← hG', ← h k]
          rfl
        exact conv_cancel' (f := Pe e) rfl h2
      obtain ⟨g, i, gz, im, eg⟩ := pw_div he hs fG hu this
      refine ⟨g, i + 1, gz, by omega, fun k => ?_⟩
      rw [eG, conv_congrR (Pe e) eg, conv_mulR]
      rfl
    · obtain ⟨u', fu, eu⟩ := root_out he hu z
      have hu' : u = conv (Pe e) u' := funext eu
      have : ∀ k, s * pw e m k = conv G u' k := by
        have h2 : ∀ k, conv (Pe e) (fun k => s * pw e m k) k = conv (Pe e) (conv G u') k := fun k => by
          rw [conv_mulR]
          show s * pw e (m + 1) k = _
          rw [h k, hu', ← conv_assoc G (Pe e) u', ← conv_assoc (Pe e) G u']
          exact conv_congrL u' (fun k => conv_comm G (Pe e) k) k
        exact conv_cancel' (f := Pe e) rfl h2
      obtain ⟨g, i, gz, im, eg⟩ := pw_div he hs hG fu this
      exact ⟨g, i, gz, by omega, eg⟩
/-! ### dividing up to a number -/
def Div (G X : Ser) : Prop := ∃ (s : Int) (u : Ser) (m : Nat), s ≠ 0 ∧ Fin_ m u ∧ ∀ k, s * X k = conv G u k
theorem Div.self (G : Ser) : Div G G := ⟨1, one, 0, by decide, fun k hk => if_neg (by omega), fun k => by rw [conv_comm, conv_one, Int.one_mul]⟩
theorem Div.zero (G : Ser) {X : Ser} (h : ∀ k, X k = 0) : Div G X := ⟨1, fun _ => 0, 0, by decide, fun _ _ => rfl, fun k => by rw [h, conv_comm, conv_zeroL G (fun _ => rfl)]; rfl⟩
theorem Div.add {G X Y : Ser} (h1 : Div G X) (h2 : Div G Y) : Div G (fun k => X k + Y k) := by
  obtain ⟨s, u, a, hs, hu, e⟩ := h1
  obtain ⟨t, v, b, ht, hv, e2⟩ := h2
  refine ⟨s * t, fun k => t * u k + s * v k, max a b, Int.mul_ne_zero hs ht, fun k hk => ?_, fun k => ?_⟩
  · show t * u k + s * v k = 0
    rw [hu k (by omega), hv k (by omega), Int.mul_zero, Int.mul_zero]
    rfl
  · rw [conv_addR G (fun k => t * u k) (fun k => s * v k), conv_mulR, conv_mulR, ← e, ← e2, Int.mul_add, ← Int.mul_assoc, Int.mul_comm s t, Int.mul_assoc, Int.mul_comm t s, Int.mul_assoc]
theorem Div.conv {G X q : Ser} {m : Nat} (hq : Fin_ m q) (h : Div G X) : Div G (conv q X) := by
  obtain ⟨s, u, a, hs, hu, e⟩ := h
  refine ⟨s, KzM.conv q u, m + a, hs, fin_conv hq hu, fun k => ?_⟩
  rw [← conv_mulR, conv_congrR q e, ← conv_assoc, ← conv_assoc]
  exact conv_congrL u (fun k => conv_comm q G k) k
theorem Div.of_mul {G X : Ser} {c : Int} (hc : c ≠ 0) (h : Div G (fun k => c * X k)) : Div G X := by
  obtain ⟨s, u, a, hs, hu, e⟩ := h
  exact ⟨s * c, u, a, Int.mul_ne_zero hs hc, hu, fun k => by rw [Int.mul_assoc]; exact e k⟩
theorem Div.mul {G X : Ser} (c : Int) (h : Div G X) : Div G (fun k => c * X k) := by
  obtain ⟨s, u, a, hs, hu, e⟩ := h
  exact ⟨s, fun k => c * u k, a, hs, fun k hk => by show c * u k = 0; rw [hu k hk, Int.mul_zero], fun k => by rw [conv_mulR, ← e, Int.mul_left_comm]⟩
theorem Div.congr {G X Y : Ser} (e : ∀ k, X k = Y k) (h : Div G X) : Div G Y := by
  have : X = Y := funext e
  rw [← this]
  exact h
/-- a step of the Euclid, told backward -/
theorem div_step {G : Ser} {a b r : List Int} (h : LeftRel a b r) (hb : Div G (co b)) (hr : Div G (co r)) : Div G (co a) := by
  obtain ⟨c, q, m, hc, hq, e⟩ := h
  exact Div.of_mul hc (Div.congr (fun k => (e k).symm) ((hb.conv hq).add hr))
/-! ### what all have in common -/
def Com (D X : Ser) : Prop := ∃ (x : Ser) (m : Nat), Fin_ m x ∧ ∀ k, X k = conv D x k
theorem com_step {D : Ser} {a b r : List Int} (h : LeftRel a b r) (ha : Com D (co a)) (hb : Com D (co b)) : Com D (co r) := by
  obtain ⟨c, q, m, hc, hq, e⟩ := h
  obtain ⟨x, m1, hx, e1⟩ := ha
  obtain ⟨y, m2, hy, e2⟩ := hb
  refine ⟨fun k => c * x k + (-1) * conv q y k, max m1 (m + m2), fun k hk => ?_, fun k => ?_⟩
  · show c * x k + (-1) * conv q y k = 0
    rw [hx k (by omega), fin_conv hq hy k (by omega), Int.mul_zero, Int.mul_zero]
    rfl
  · rw [conv_addR D (fun k => c * x k) (fun k => (-1) * conv q y k), conv_mulR, conv_mulR, ← e1, ← conv_assoc, conv_congrL y (fun k => conv_comm D q k), conv_assoc, conv_congrR q (fun k => (e2 k).symm)]
    have := e k
    omega
theorem conv_dvd {f z : Ser} {d : Int} (f0 : f 0 = 1) (h : ∀ n, d ∣ conv f z n) : ∀ n, d ∣ z n := by
  intro n
  induction n using Nat.strongRecOn with
  | ind n ih =>
    cases n with
    | zero =>
      have := h 0
      have e : conv f z 0 = f 0 * z 0 := rfl
      rw [e, f0, Int.one_mul] at this
      exact this
    | succ n =>
      have h1 := h (n + 1)
      have e : conv f z (n + 1) = f 0 * z (n + 1) + conv (sh f) z n := rfl
      rw [e, f0, Int.one_mul] at h1
      have h2 : d ∣ conv (sh f) z n := by
        rw [conv_sum]
        exact sumN_dvd fun k hk => Int.dvd_trans (ih (n - k) (by omega)) ⟨_, Int.mul_comm _ _⟩
      have := Int.dvd_sub h1 h2
      rw [Int.add_sub_cancel] at this
      exact this
theorem com_down {D X Y : Ser} {c : Int} (D0 : D 0 = 1) (hc : c ≠ 0) (e : ∀ k, X k = c * Y k) (h : Com D X) : Com D Y := by
  obtain ⟨x, m, hx, e1⟩ := h
  have d : ∀ n, c ∣ x n := conv_dvd D0 fun n => ⟨Y n, by rw [← e1, e]⟩
  refine ⟨fun k => x k / c, m, fun k hk => by show x k / c = 0; rw [hx k hk]; exact Int.zero_ediv c, fun k => ?_⟩
  have : c * Y k = c * conv D (fun k => x k / c) k := by
    rw [← e, e1, ← conv_mulR]
    exact conv_congrR D (fun k => (Int.mul_ediv_cancel' (d k)).symm) k
  exact Int.eq_of_mul_eq_mul_left hc this
/-- the end -/
theorem euclid_end {e : Int} (he : e * e = 1) {K j b : Nat} {G B' A B : Ser} {m : Nat} (hG : Fin_ m G) (hA : ∀ k, A k = pw e (K + j) k) (hB : ∀ k, B k = conv (pw e K) B' k) (hB' : Fin_ b B') (hj : j = 0 ∨ evr (-e) b B' ≠ 0) (B0 : B' 0 = 1)
    (dA : Div G A) (dB : Div G B) (cG : Com (pw e K) G) : ∃ g : Int, g ≠ 0 ∧ ∀ k, G k = g * pw e K k := by
  obtain ⟨s, u, m1, hs, hu, e1⟩ := dA
  obtain ⟨g, i, gz, im, eg⟩ := pw_div he hs hG hu fun k => by rw [← hA, e1]
  have ev0 : ∀ {n : Nat} {w : Ser} {m : Nat}, Fin_ m w → 0 < n → ∀ M, n + m ≤ M → evr (-e) M (conv (pw e n) w) = 0 := fun {n w m} hw hn M hM => by
    rw [evr_stay (-e) (fin_conv (fin_pw e n) hw) hM, evr_conv (-e) hw (fin_pw e n)]
    obtain ⟨n', rfl⟩ : ∃ n', n = n' + 1 := ⟨n - 1, by omega⟩
    have := evr_conv (-e) (fin_pw e n') (fin_P e)
    rw [evP he, Int.zero_mul, Nat.add_comm] at this
    have : evr (-e) (n' + 1) (pw e (n' + 1)) = 0 := this
    rw [this, Int.zero_mul]
  have iK : i ≤ K := Decidable.byContradiction fun z => by
    obtain ⟨d, hd, rfl⟩ : ∃ d, 0 < d ∧ i = K + d := ⟨i - K, by omega, by omega⟩
    obtain ⟨t, v, m2, ht, hv, e2⟩ := dB
    have h2 : ∀ k, conv (pw e K) (fun k => t * B' k) k = conv (pw e K) (fun k => g * conv (pw e d) v k) k := fun k => by
      rw [conv_mulR, ← hB, e2, conv_congrL v eg, conv_mulL, conv_mulR, pw_add, conv_assoc]
    have h3 := conv_cancel' (pw_zero e K) h2
    have h4 : (fun k => t * B' k) = fun k => g * conv (pw e d) v k := funext h3
    have h5 : evr (-e) (max b (d + m2)) (fun k => t * B' k) = 0 := by
      rw [h4, evr_mul, ev0 hv hd _ (by omega), Int.mul_zero]
    rw [evr_mul, evr_stay (-e) hB' (by omega)] at h5
    rcases Int.mul_eq_zero.mp h5 with q | q
    · exact ht q
    · rcases hj with q2 | q2
      · omega
      · exact q2 q
  have Ki : K ≤ i := Decidable.byContradiction fun z => by
    obtain ⟨d, hd, rfl⟩ : ∃ d, 0 < d ∧ K = i + d := ⟨K - i, by omega, by omega⟩
    obtain ⟨x, m3, hx, e3⟩ := cG
    have h2 : ∀ k, conv (pw e i) (fun k => g * one k) k = conv (pw e i) (conv (pw e d) x) k := fun k => by
      rw [conv_mulR, ← conv_assoc, ← pw_add, ← e3, eg, conv_comm, conv_one]
    have h3 := conv_cancel' (pw_zero e i) h2
    have h4 : (fun k => g * one k) = conv (pw e d) x := funext h3
    have h5 : evr (-e) (d + m3) (fun k => g * one k) = 0 := by
      rw [h4]
      exact ev0 hx hd _ (Nat.le_refl _)
    rw [evr_mul, evr_stay (-e) (a := 0) (f := one) (fun k hk => if_neg (by omega)) (Nat.zero_le _)] at h5
    have : evr (-e) 0 one = 1 := rfl
    rw [this, Int.mul_one] at h5
    exact gz h5
  have : i = K := by omega
  exact ⟨g, gz, by rw [← this]; exact eg⟩
end KzM
end
section
set_option linter.all false
/-! the mathematics, 6: contents, bounds -/
namespace KzM
def FB : Nat → Nat
  | 0 => 20000
  | 1 => 3259
  | 2 => 649
  | 3 => 159
  | 4 => 49
  | 5 => 19
  | _ => 9
theorem fb1 : ∀ la ∈ List.range 7, ∀ lb ∈ List.range 7, 1 ≤ lb → lb < la → FB la + (la + 1 - lb) * (FB lb + 1) ≤ FB (lb - 1) := by decide
theorem fb2 : ∀ la ∈ List.range 7, ∀ lb ∈ List.range 7, 1 ≤ lb → 9 + (la + 1 - lb) * (FB lb + 1) ≤ FB (lb - 1) := by decide
theorem fb3 : ∀ a ∈ List.range 7, ∀ b ∈ List.range 7, a ≤ b → FB b ≤ FB a := by decide
theorem fb4 (a : Nat) : FB a ≤ 20000 := by
  unfold FB
  split <;> decide
theorem fb5 {a : Nat} (h : 1 ≤ a) : FB a ≤ 3259 := by
  unfold FB
  split
  · omega
  all_goals decide
theorem fb6 (a : Nat) : 9 ≤ FB a := by
  unfold FB
  split <;> decide
theorem gcd_dvd_all : ∀ (l : List Int) (g : Nat), ((l.foldl (fun g x => Int.gcd g x) g : Nat) : Int) ∣ (g : Int) ∧ ∀ x ∈ l, ((l.foldl (fun g x => Int.gcd g x) g : Nat) : Int) ∣ x
  | [], g => ⟨⟨1, by simp⟩, by simp⟩
  | x :: l, g => by
    obtain ⟨h1, h2⟩ := gcd_dvd_all l (Int.gcd g x)
    refine ⟨Int.dvd_trans h1 (Int.gcd_dvd_left ..), fun y hy => ?_⟩
    rcases List.mem_cons.mp hy with e | m
    · rw [e]
      exact Int.dvd_trans h1 (Int.gcd_dvd_right ..)
    · exact h2 y m
theorem gcd_all_dvd : ∀ (l : List Int) (g : Nat) (d : Int), d ∣ (g : Int) → (∀ x ∈ l, d ∣ x) → d ∣ ((l.foldl (fun g x => Int.gcd g x) g : Nat) : Int)
  | [], _, _, h, _ => h
  | x :: l, g, d, h, hx => gcd_all_dvd l _ d (Int.dvd_coe_gcd h (hx x List.mem_cons_self)) fun y hy => hx y (List.mem_cons_of_mem _ hy)
theorem gcdTo_dvd (l : List Int) (k : Nat) : ((gcdTo l : Nat) : Int) ∣ co l k := by
  by_cases h : k < l.length
  · have e : co l k = l[k] := co_at (List.getElem?_eq_getElem h)
    rw [e]
    exact (gcd_dvd_all l 0).2 _ (List.getElem_mem h)
  · rw [co_out (by omega)]
    exact ⟨0, by simp⟩
theorem dvd_gcdTo {l : List Int} {d : Int} (h : ∀ k, d ∣ co l k) : d ∣ ((gcdTo l : Nat) : Int) :=
  gcd_all_dvd l 0 d ⟨0, by simp⟩ fun x hx => by
    obtain ⟨i, hi, e⟩ := List.getElem_of_mem hx
    have := h i
    rw [co_at (List.getElem?_eq_getElem hi), e] at this
    exact this
theorem gcdTo_nz {l : List Int} {k : Nat} (h : co l k ≠ 0) : gcdTo l ≠ 0 := fun z => by
  have := gcdTo_dvd l k
  rw [z] at this
  exact h (Int.zero_dvd.mp this)
theorem gcdTo_le {l : List Int} {k : Nat} (h : co l k ≠ 0) : gcdTo l ≤ (co l k).natAbs := by
  have := gcdTo_dvd l k
  have h2 := Int.natAbs_dvd_natAbs.mpr this
  rw [Int.natAbs_natCast] at h2
  exact Nat.le_of_dvd (Int.natAbs_pos.mpr h) h2
/-- a list divided by what all have in common -/
def divL (l : List Int) (c : Int) : List Int := (List.range l.length).map fun i => (co l i).fdiv c
theorem divL_len (l : List Int) (c : Int) : (divL l c).length = l.length := by
  unfold divL
  rw [List.length_map, List.length_range]
theorem divL_co {l : List Int} {c : Int} (hc : c ≠ 0) (h : ∀ k, c ∣ co l k) (k : Nat) : c * co (divL l c) k = co l k := by
  by_cases hk : k < l.length
  · have : co (divL l c) k = (co l k).fdiv c := co_at (by unfold divL; rw [List.getElem?_map, List.getElem?_range hk]; rfl)
    rw [this]
    exact Int.mul_fdiv_cancel' (h k)
  · rw [co_out (by rw [divL_len]; omega), co_out (by omega), Int.mul_zero]
theorem divL_trim {l : List Int} {c : Int} (hc : c ≠ 0) (h : ∀ k, c ∣ co l k) (t : Trimd l) : Trimd (divL l c) := fun ne z => by
  rw [divL_len] at z
  have nl : l ≠ [] := fun q => ne (by rw [q]; rfl)
  refine t nl ?_
  rw [← divL_co hc h, z, Int.mul_zero]
theorem divL_bits {l : List Int} {c : Int} {b : Nat} (hc : c ≠ 0) (h : ∀ k, c ∣ co l k) (hb : Bits b l) : Bits b (divL l c) := fun k => by
  refine Nat.lt_of_le_of_lt ?_ (hb k)
  rw [← divL_co hc h k, Int.natAbs_mul]
  exact Nat.le_mul_of_pos_left _ (Int.natAbs_pos.mpr hc)
/-- one a power of 1 + e t, the other that power's K-th and what does not vanish with it -/
def CopP (e : Int) (K : Nat) (A B : Ser) : Prop := ∃ (j b : Nat) (B' : Ser), (∀ k, A k = pw e (K + j) k) ∧ (∀ k, B k = conv (pw e K) B' k) ∧ Fin_ b B' ∧ (j = 0 ∨ evr (-e) b B' ≠ 0) ∧ B' 0 = 1
theorem CopP.com {e : Int} {K : Nat} {A B : Ser} (h : CopP e K A B) : Com (pw e K) A ∧ Com (pw e K) B := by
  obtain ⟨j, b, B', h1, h2, h3, _⟩ := h
  exact ⟨⟨pw e j, j, fin_pw e j, fun k => by rw [h1, pw_add]⟩, ⟨B', b, h3, h2⟩⟩
theorem CopP.ends {e : Int} (he : e * e = 1) {K m : Nat} {A B G : Ser} (h : CopP e K A B ∨ CopP e K B A) (hG : Fin_ m G) (dA : Div G A) (dB : Div G B) (c : Com (pw e K) G) : ∃ g : Int, g ≠ 0 ∧ ∀ k, G k = g * pw e K k := by
  rcases h with ⟨j, b, B', h1, h2, h3, h4, h5⟩ | ⟨j, b, B', h1, h2, h3, h4, h5⟩
  · exact euclid_end he hG h1 h2 h3 h4 h5 dA dB c
  · exact euclid_end he hG h1 h2 h3 h4 h5 dB dA c
theorem CopP.zero {e : Int} {K : Nat} {A B : Ser} (h : CopP e K A B) : A 0 = 1 ∧ B 0 = 1 := by
  obtain ⟨j, b, B', h1, h2, h3, _, h5⟩ := h
  refine ⟨by rw [h1, pw_zero], ?_⟩
  rw [h2]
  show pw e K 0 * B' 0 = 1
  rw [pw_zero, h5]
  rfl
theorem pw_len {e : Int} (he : e * e = 1) {K : Nat} {l : List Int} {g : Int} (hg : g ≠ 0) (h : ∀ k, co l k = g * pw e K k) (t : Trimd l) : l.length = K + 1 := by
  have eK : pw e K K ≠ 0 := by
    rw [pw_top]
    have := pow_unit (e := -e) (by rw [Int.neg_mul_neg]; exact he) K
    rw [Int.neg_neg] at this
    exact this
  have h1 : K < l.length := Decidable.byContradiction fun z => by
    have := h K
    rw [co_out (by omega)] at this
    exact Int.mul_ne_zero hg eK this.symm
  have ne : l ≠ [] := fun z => by rw [z] at h1; simp at h1
  have h2 : l.length - 1 ≤ K := Decidable.byContradiction fun z => t ne (by rw [h, fin_pw e K _ (by omega), Int.mul_zero])
  omega
end KzM
end
section
set_option linter.all false
/-! the mathematics, 7: the quotients -/
namespace KzM
theorem pw_bits {e : Int} (he : e * e = 1) : ∀ (m k : Nat), (pw e m k).natAbs ≤ 2 ^ m
  | 0, k => by
    show (if k = 0 then (1 : Int) else 0).natAbs ≤ 1
    split <;> decide
  | m + 1, 0 => by
    rw [pw_zero]
    exact Nat.pos_of_ne_zero (by simp)
  | m + 1, k + 1 => by
    show (conv (Pe e) (pw e m) (k + 1)).natAbs ≤ 2 ^ (m + 1)
    rw [conv_P]
    have h1 := pw_bits he m (k + 1)
    have h2 := pw_bits he m k
    have h3 : (e * pw e m k).natAbs = (pw e m k).natAbs := by
      rw [Int.natAbs_mul]
      have : e.natAbs * e.natAbs = 1 := by rw [← Int.natAbs_mul, he]; rfl
      rw [Nat.eq_one_of_mul_eq_one_right this, Nat.one_mul]
    have := Int.natAbs_add_le (pw e m (k + 1)) (e * pw e m k)
    rw [Nat.pow_succ]
    omega
theorem pw_top_nz {e : Int} (he : e * e = 1) (K : Nat) : pw e K K ≠ 0 := by
  rw [pw_top]
  have := pow_unit (e := -e) (by rw [Int.neg_mul_neg]; exact he) K
  rw [Int.neg_neg] at this
  exact this
/-- the length of a product with a power -/
theorem quot_len {e : Int} (he : e * e = 1) {K m : Nat} {l : List Int} {x : Ser} (t : Trimd l) (hx : Fin_ m x) (x0 : x 0 ≠ 0) (h : ∀ k, co l k = conv (pw e K) x k) : ∃ a, l.length = K + a + 1 ∧ Fin_ a x ∧ x a ≠ 0 := by
  obtain ⟨a, xa, fa⟩ := degree hx ⟨0, x0⟩
  have top : co l (K + a) ≠ 0 := by
    rw [h, conv_top (fin_pw e K) fa]
    exact Int.mul_ne_zero (pw_top_nz he K) xa
  have h1 : K + a < l.length := Decidable.byContradiction fun z => top (co_out (by omega))
  have ne : l ≠ [] := fun z => by rw [z] at h1; simp at h1
  have h2 : l.length - 1 ≤ K + a := Decidable.byContradiction fun z => t ne (by rw [h, conv_out (fin_pw e K) fa (by omega)])
  exact ⟨a, by omega, fa, xa⟩
/-- what an unrolling over the power gives -/
theorem quot_is {e : Int} (he : e * e = 1) {K a : Nat} {l r part : List Int} {x : Ser} (hl : l.length = K + a + 1) (fa : Fin_ a x) (xa : x a ≠ 0) (h : ∀ k, co l k = conv (pw e K) x k) (hp : ∀ k, co part k = pw e K k) (lr : r.length = a + 1) (hr : ∀ k, k ≤ a → conv (co part) (co r) k = co l k) :
    (∀ k, co r k = x k) ∧ Trimd r := by
  have e1 : ∀ k, k ≤ a → co r k = x k := conv_cancel (f := pw e K) (pw_zero e K) fun n hn => by
    rw [← conv_congrL (co r) hp, hr n hn, h]
  have e2 : ∀ k, co r k = x k := fun k => by
    by_cases hk : k ≤ a
    · exact e1 k hk
    · rw [co_out (by omega), fa k (by omega)]
  exact ⟨e2, fun ne z => xa (by rw [← e2, ← z, lr]; rfl)⟩
/-- the quotients have nothing more in common -/
theorem cop_zero {e : Int} {K : Nat} {A B x y : Ser} (h : CopP e K A B) (hA : ∀ k, A k = conv (pw e K) x k) (hB : ∀ k, B k = conv (pw e K) y k) : CopP e 0 x y := by
  obtain ⟨j, b, B', h1, h2, h3, h4, h5⟩ := h
  have ex : ∀ k, x k = pw e (0 + j) k := conv_cancel' (pw_zero e K) fun n => by rw [← hA, h1, Nat.zero_add, pw_add]
  have ey : ∀ k, y k = B' k := conv_cancel' (pw_zero e K) fun n => by rw [← hB, h2]
  exact ⟨j, b, B', ex, fun k => by rw [ey]; exact (conv_one B' k).symm, h3, h4, h5⟩
end KzM
end
section
set_option Elab.async false
set_option linter.all false
set_option maxRecDepth 100000
set_option maxHeartbeats 4000000
/-! BadNumber(part): the making of it (super().__init__(..), then self.part = part) -/
namespace Kz
open PySem PySem.W PySem.Calls PyProof.Rows PySem.HandSPX
structure BnT (K : Frag) (mg : Str → Option Value) (C fI : Addr) : Prop where
  gC : mg "BadNumber" = some (.ref C)
  cls : ∃ nm q N bs bm sn sub ab col dd k0 k1 k2 k3 k5, K.lookup C = some (excClassObj nm q C N bs bm true sn sub ab col dd k0 k1 k2 k3 k5 "ValueError.__new__") ∧ refsVE bm = true
  sa : findIn K (.ref C) "__setattr__" = some (some (.builtin "object.__setattr__"))
  noN : findIn K (.ref C) "part" = some none
  iC : findIn K (.ref C) "__init__" = some (some (.ref fI))
  tC : typeIn K (.ref fI) = some (.type "function")
  kC : keepIn K (.ref C) = true
  exC : subIn K (.ref C) (.type "BaseException") = some true
  tyC : typeIn K (.ref C) = some (.type "type")
  veC : subIn K (.ref C) (.type "ValueError") = some true
  ccC : subIn K (.ref C) (.ref C) = some true
  tp : nsIn K cStatics "thirdparty.any" = some none
  up : ks_superIn K C C "__init__" = some (some (.builtin "ValueError.__init__"))
  sup : mg "super" = none
  fn : ∃ (oc : Value) (od : Option Addr) (doc pm : Value) (an : Option Addr) (cda : Addr) (ct : Value) (osl : Array (Option Value)) (cc : Addr) (ccl : Value) (cdd : Option Addr) (vs : Array Value) (ccs : Array (Option Value)) (tf : Tok) (cl : Value) (cld : Option Addr) (csl : Array (Option Value)),
    K.lookup fI = some ⟨oc, od, .func (ksFn "__init__" "BadNumber.__init__" (L2.defArgs sBN) (L2.defBody sBN) (L2.defScope sBN) .none .none doc pm an (.ref cda) ct cc), osl⟩ ∧ codeIn K (.ref cda) "BadNumber.__init__" = true ∧
    K.lookup cda = some ⟨ccl, cdd, .fields vs, ccs⟩ ∧ vs[2]? = some (.str "/claim/cut.py" tf) ∧ K.lookup cc = some ⟨cl, cld, .cell (some (.ref C)), csl⟩
/-- what __init__ leaves of a fresh exception at x -/
structure BnEnd (h h' : Heap) (x C dx : Addr) (v : Value) : Prop where
  keep : ∀ b o, b ≠ x → h.get? b = some o → h'.get? b = some o
  obj : ∃ t1 : Addr, h'.get? x = some { cls := .ref C, dict := some dx, data := .fields #[.ref t1, .none, .none, .none, .bool false, .none] }
  dbig : h.objs.size ≤ dx
  dne : dx ≠ x
  ns : h'.Ns1 dx (fun y => if y = "part" then some v else none)
/-- the bound built-in __init__ at u, of the exception at x, called with one text -/
theorem mw_call {prog : Program} {w : World} {A : Around} {E : Value → Shared → Prop} {h : Heap} {g : Array GenState} {d : Drawn} {t : Nat} {os : OsState} {u x t0 C : Addr} {z : Value} {Q : Value → Shared → Prop}
    {nm q : Str} {N : Addr} {bs bm : List Value} {hdct : Bool} {sn : List Str} {sub : List Value} {ab : Bool} {col : Option Bool} {dd : Option Addr} {k0 k1 k2 k3 k5 : Option Value}
    (hC : h.get? C = some (excClassObj nm q C N bs bm hdct sn sub ab col dd k0 k1 k2 k3 k5 "ValueError.__new__")) (hu : h.get? u = some (kxs_mw "ValueError.__init__" x)) (hx : h.get? x = some (excO C t0))
    (hq : ∀ h', (∀ b o, b ≠ x → h.get? b = some o → h'.get? b = some o) → (∃ t1 : Addr, h'.get? x = some (excO C t1)) → Q .none ⟨h', g, d, t, os⟩) :
    wpAny (model prog w) A (PySem.call (.ref u) [z]) Q E ⟨h, g, d, t, os⟩ := by
  refine wpAny_call (codeAny_of_tree ?_)
  show wpAny _ A.in1 (callAny (Value.ref u) ⟨[z], []⟩) _ _ _
  simp only [callAny]
  refine wpAny_bind (wpAny_load hu ?_)
  have e1 : (Value.type "method-wrapper" == Value.type "method" || (Value.type "method-wrapper" == Value.type "builtin_function_or_method" || Value.type "method-wrapper" == Value.type "method-wrapper")) = true := by decide
  have e2 : (Value.type "method-wrapper" == Value.type "method" || Value.type "method-wrapper" == Value.type "builtin_function_or_method" || Value.type "method-wrapper" == Value.type "method-wrapper") = true := by decide
  simp only [kxs_mw, e1, e2, if_true]
  refine KFB.if_so (by decide) ?_
  have FB := F.excBase_ValueError
  refine wpAny_bind (check_bound_init FB.toExcCallFacts hC hx rfl ?_)
  refine wpAny_bind (wpAny_pure (wpAny_pure ⟨plainId_quiet FB.init.plain _, codeAny_builtin FB.initEntry ?_⟩))
  rw [Around.under_plainId FB.init.plain _]
  exact exc_init_tree (cls := .ref C) (t0 := t0) (dv := none) (c2 := .none) (c3 := .none) (b4 := .bool false) hx (by show 1 ≤ sizeLine; rw [sizeLine_eq]; decide) fun h' k1 k2 _ => hq h' k1 ⟨_, k2⟩
section
variable {w : World} {A : Around} {E : Value → Shared → Prop} {R : Result → Shared → Prop} {s : Shared} {K : Frag} {mg mb : Str → Option Value} {C fI : Addr}
abbrev PG : Program := PySem.Challenge.pw_ruleshadows_k60_whole_counts_of_webs
theorem bn_init (T : BnT K mg C fI) {x t0 : Addr} {v : Value} (X : K.In s.heap) (hlim : s.heap.NoLimit) (hg : s.heap.Ns mainGlobals mg) (hb : s.heap.Ns builtinsNs mb) (hbb : ∀ x : Str, x ≠ "__name__" → mb x = bootBuiltins x)
    (hx : s.heap.get? x = some (excO C t0)) (hnx : ¬ (K.lookup x).isSome = true) (hroom : A.depth < recursionLimit)
    (hq : ∀ h' tk dx, BnEnd s.heap h' x C dx v → R (.ok (.ret .none)) { s with heap := h', toks := tk }) :
    codeAny (model PG w) A (.call (.ref fI) ⟨[.ref x, v], []⟩) R s := by
  obtain ⟨oc, od, doc, pm, an, cda, ct, osl, cc, ccl, cdd, vs, ccs, tf, cl, cld, csl, ho, hcd, hcda, hvs, hcc⟩ := T.fn
  obtain ⟨nm, q, N, bs, bm, sn, sub, ab, col, dd, k0, k1, k2, k3, k5, hC, hbm⟩ := T.cls
  have hcl : clsIn K C = some { name := nm, bases := bs, mro := .ref C :: bm, ns := N, qualname := q, hasDict := true, slotNames := sn, subclasses := sub, abstract := ab, collection := col, hasDel := false } := by unfold clsIn; rw [hC] <;> rfl
  have hcell : ∀ y ∈ (L2.defScope sBN).names, y.2 ≠ .cell := by decide +kernel
  refine ks_codeAny_call_defAt (binds := [("self", .ref x), ("part", v)]) hroom (X _ _ ho) rfl hlim (codeRec_of X hcd) rfl (BindsTo.of_eq (by first | rfl | with_unfolding_all rfl)) hcell (by intro y hy; rcases List.mem_cons.mp hy with rfl | hy; rfl; rcases List.mem_cons.mp hy with rfl | hy; rfl; cases hy) (fun h₁ hn k => ?_) rfl rfl rfl
  have X₁ : K.In h₁ := X.keeps k
  have hx₁ := k _ _ hx
  have hI : InstAt h₁ x (excO C t0) C none := ⟨hx₁, rfl, rfl, trivial⟩
  obtain ⟨hp, g, dr, tk, os⟩ := s
  refine ks_wpAt_execs_cons (ks_wpAt_Expr_any (ks_wpAt_MethodCall (ks_wpAt_super_base (cc := cda) (f := fI) rfl rfl rfl rfl (k _ _ (X _ _ ho)) rfl rfl rfl (k _ _ (X _ _ hcda)) rfl hvs (by decide +kernel) (by decide +kernel) ?_)))
  refine ks_loadName_global rfl rfl (loadGlobal_builtin (hg.keeps k) T.sup (hb.keeps k) ((hbb _ (by decide +kernel)).trans (by decide +kernel)) ⟨rfl, ?_⟩)
  refine wpAny_loadName_free rfl rfl rfl ⟨_, X₁ _ _ hcc, rfl⟩ ?_
  refine wpAny_loadName_local rfl rfl hn (by rfl) ?_
  obtain ⟨oC, hoC, hcd2⟩ : ∃ oC, h₁.get? C = some oC ∧ oC.data = .cls { name := nm, bases := bs, mro := .ref C :: bm, ns := N, qualname := q, hasDict := true, slotNames := sn, subclasses := sub, abstract := ab, collection := col, hasDel := false } := ⟨_, X₁ _ _ hC, rfl⟩
  refine ks_wpAny_isType_cls hoC hcd2 ⟨rfl, ?_⟩
  refine ks_wpAny_call_super hoC hcd2 hI.at_ rfl (fun c e => by cases e) (looks_subIn X₁ T.ccC) (fun h2 hso k2 => ?_)
  have X2 : K.In h2 := X₁.keeps k2
  have hx2 := k2 _ _ hx₁
  have hI2 : InstAt h2 x (excO C t0) C none := ⟨hx2, rfl, rfl, trivial⟩
  have up : alongIn K "__init__" (((Value.ref C :: bm).dropWhile (· != Value.ref C)).drop 1) = some (some (.builtin "ValueError.__init__")) := by
    have z := T.up
    unfold ks_superIn at z
    rw [hcl] at z
    exact z
  have hmro : Looks (model PG w) h2 (mroOf (.ref C)) (.ref C :: bm) := fun A' Q' E' s' kk qq => wpAny_bind ((looks_clsIn X2 hcl) A' _ E' s' kk (wpAny_pure qq))
  refine kxs_getMethod kxs_ValueError hso (looks_opaque X2 T.tp) hmro rfl X2 up (hI2.type.andThen (looks_subIn X2 T.veC)) (ks_ne X2 hI2 hcl) (by decide +kernel) ?_
  have kp : ∀ b o, h2.get? b = some o → (h2.push (kxs_mw "ValueError.__init__" x)).get? b = some o := fun b o e => Heap.get?_push_of_some _ e
  refine kxs_callWith (i := "ValueError.__init__") (x := x) rfl (evalArgs_plain ?_)
  refine Calls.spliced_cons (Calls.Constant_str (k := 0) (pos := ⟨9, 25, 9, 44⟩) (Calls.spliced_nil ⟨Heap.get?_push_size _ rfl, ?_⟩))
  refine mw_call (t0 := t0) (C := C) (kp _ _ (X2 _ _ hC)) (Heap.get?_push_size _ rfl) (kp _ _ hx2) fun h3 k3 hx3 => ?_
  obtain ⟨t1, hx3⟩ := hx3
  -- self.part = part
  have k03 : ∀ b o, b ≠ x → h₁.get? b = some o → h3.get? b = some o := fun b o hb e => k3 b o hb (kp _ _ (k2 _ _ e))
  have hxL : hp.objs.size ≠ x := fun z => by
    have y := Heap.lt_size hx
    rw [← z] at y
    exact Nat.lt_irrefl _ y
  have hn3 : h3.Ns hp.objs.size (fun y => [(("self" : Str), Value.ref x), ("part", v)].reverse.lookup y) := by
    obtain ⟨o, es, ep, eo, ed, er⟩ := hn
    exact ⟨o, es, ep, k03 _ _ hxL eo, ed, er⟩
  have X3 : K.In h3 := fun b o e => by
    by_cases hb : b = x
    · have y := X _ _ e
      rw [hb] at y
      have y2 : hp.get? x = some (excO C t0) := hx
      rw [y2] at y
      cases y
      rw [hb] at e
      exact absurd (X₁ _ _ e) (fun _ => hnx (by rw [e]; simp))
    · exact k03 b o hb (X₁ _ _ e)
  refine ks_wpAt_execs_cons (ks_wpAt_Assign_Attr (wpAt_of_any (wpAny_Name (wpAny_loadName_local rfl rfl hn3 (by rfl) (wpAny_Name (wpAny_loadName_local rfl rfl hn3 (by rfl) ?_) (by decide))) (by decide))))
  refine set_plain X3 (ox := excO C t1) (od := none) ⟨hx3, rfl, rfl, trivial⟩ T.sa ?_
  refine exc_osa X3 hx3 hcl (show refsVE (.ref C :: bm) = true from hbm) rfl T.noN (fun h4 tk4 dx k4 dn dne hx4 hn4 => ?_)
  refine wpAt_of_any (wpAny_execs_nil ?_)
  exact hq h4 tk4 dx ⟨fun b o hb e => k4 b o hb (k03 b o hb (k b o e)), ⟨t1, hx4⟩, Nat.le_trans (Nat.le_of_lt hn3.lt) dn, dne, hn4⟩
/-- a made BadNumber -/
structure BnMade (h h' : Heap) (e C d : Addr) (v : Value) : Prop where
  keep : ∀ b o, h.get? b = some o → h'.get? b = some o
  new : h.objs.size ≤ e
  obj : ∃ oe vs, h'.get? e = some oe ∧ oe.cls = .ref C ∧ oe.dict = some d ∧ oe.data = .fields vs ∧ vs[1]? = some .none
  dbig : h.objs.size ≤ d
  dne : d ≠ e
  ns : h'.Ns1 d (fun y => if y = "part" then some v else none)
theorem bn_made (T : BnT K mg C fI) {v : Value} (X : K.In s.heap) (hlim : s.heap.NoLimit) (hg : s.heap.Ns mainGlobals mg) (hb : s.heap.Ns builtinsNs mb) (hbb : ∀ x : Str, x ≠ "__name__" → mb x = bootBuiltins x) (hroom : A.depth + 1 < recursionLimit)
    (hq : ∀ h' tk e d, BnMade s.heap h' e C d v → R (.ok (.ret (.ref e))) { s with heap := h', toks := tk }) :
    codeAny (model PG w) A (.call (.ref C) ⟨[v], []⟩) R s := by
  obtain ⟨nm, q, N, bs, bm, sn, sub, ab, col, dd, k0, k1, k2, k3, k5, hC, hbm⟩ := T.cls
  obtain ⟨hp, g, dr, tk, os⟩ := s
  have k : ∀ b o, hp.get? b = some o → ((hp.push (kdv_tup [v])).push (excO C hp.objs.size)).get? b = some o := fun b o e => Heap.get?_push_of_some _ (Heap.get?_push_of_some _ e)
  have hget : ((hp.push (kdv_tup [v])).push (excO C hp.objs.size)).get? (hp.objs.size + 1) = some (excO C hp.objs.size) := by heap_get
  have hnx : ¬ (K.lookup (hp.objs.size + 1)).isSome = true := fun z => by
    obtain ⟨o, e⟩ := Option.isSome_iff_exists.mp z
    have z : hp.get? (hp.objs.size + 1) = some o := X _ _ e
    exact absurd (Nat.lt_of_succ_lt (Heap.lt_size z)) (Nat.lt_irrefl _)
  refine call_own F.excBase_ValueError (fun X => refsVE_contains X bm hbm) (X _ _ hC) (looks_findIn X T.iC) (fun self => bind_fn X self T.tC) (by show 1 ≤ sizeLine; rw [sizeLine_eq]; decide) ?_
  refine bn_init (s := ⟨(hp.push (kdv_tup [v])).push (excO C hp.objs.size), g, dr, tk, os⟩) T (X.keeps k) (hlim.keeps k) (hg.keeps k) (hb.keeps k) hbb hget hnx ?_ fun h' tk' dx ⟨k', hx, dn, dne, hns⟩ => ?_
  · show A.depth + 1 < recursionLimit
    exact hroom
  · have old : ∀ b o, hp.get? b = some o → h'.get? b = some o := fun b o e => k' b o (Nat.ne_of_lt (Nat.lt_succ_of_lt (Heap.lt_size e))) (k b o e)
    have z : hp.objs.size + 1 + 1 ≤ dx := by
      have q := dn
      rw [Heap.size_push, Heap.size_push] at q
      exact q
    obtain ⟨t1, hx⟩ := hx
    exact ⟨rfl, hq h' tk' (hp.objs.size + 1) dx ⟨old, Nat.le_succ _, ⟨_, _, hx, rfl, rfl, rfl, rfl⟩, Nat.le_trans (Nat.le_trans (Nat.le_succ _) (Nat.le_succ _)) z, dne, hns⟩⟩
end
end Kz
namespace Kz
open PySem PySem.Spec PyProof.Rows L2
theorem relO_part {v : V} {v' : Value} (r : RelV v v') (f : Str) : RelO (List.lookup f [(("part" : Str), v)]) (if f = "part" then some v' else none) := by
  by_cases hw : f = "part"
  · subst hw
    rw [if_pos rfl]
    have q : List.lookup ("part" : Str) [(("part" : Str), v)] = some v := by simp [List.lookup]
    rw [q]
    exact r
  · rw [if_neg hw]
    have qw : (f == ("part" : Str)) = false := by simpa using hw
    have q2 : List.lookup f [(("part" : Str), v)] = none := by simp [List.lookup, qw]
    rw [q2]
    trivial
section
variable {X : Cx} {C fI : Addr}
/-- BadNumber(e) -/
def tMkBn (C : Addr) (ta : TA) : L2.St → Hp → XK → Prop := fun σ H Q => ta σ H fun vs H1 => ∃ v, vs = [v] ∧ ∀ d, H1 d = none → Q (.ref C) (some d) (upd H1 d (.xd [(("part" : Str), v)]))
theorem pmk_bn {a : Expr} {ta : TA} {p pos : Pos} {k : Nat} (hP : X.prog = PG) (T : BnT X.K X.mg C fI) (hr : Room k X.A) (ha : PA X [a] ta) (hg : Gl X "BadNumber" := by rfl)
    (he : starEach (a :: []) X.env = (false, eval a X.env) :: starEach [] X.env := by rfl) (hpl : (backTo pos (starEach [] X.env)).any (·.1) = false := by rfl) :
    PMk X (.Call (.Name "BadNumber" p) [a] [] pos) (tMkBn C ta) := by
  intro pins s σ H Q I h
  refine wpAny_Call_Name_kw (ld_glob I hg T.gC ?_)
  refine PySem.W.callWith_K (h₀ := X.base) I.ok.mod.kin T.kC (thn (ha.run pos pins s σ H _ I h) fun us s1 hh => ?_) he hpl
  obtain ⟨vs, H1, I1, r1, v, ev, q1⟩ := hh
  subst ev
  refine ⟨I1.kIn, ?_⟩
  cases r1 with
  | cons rv rn =>
    rename_i v' us'
    cases rn
    show wpAny _ _ (PySem.call (.ref C) [v']) _ _ _
    have hlim := I1.nolimit
    have hgl := I1.mod.glob.keeps I1.bk
    obtain ⟨mb, hb1, hb2⟩ := I1.mod.blt
    have hb1 := hb1.keeps I1.bk
    have kin := I1.kIn
    obtain ⟨hp, g, dr, tk, os⟩ := s1
    rw [hP]
    refine wpAny_call (bn_made T kin hlim hgl hb1 hb2 (by have := hr.dp; omega) fun h' tk' e d M => ?_)
    show MkP X pins σ Q (.ref e) ⟨h', g, dr, tk', os⟩
    obtain ⟨oe, fv, hoe, hc, hd, hdat, h1⟩ := M.obj
    have hns := M.ns
    obtain ⟨G', g1, g2⟩ := restrict h' fun b => decide (b ≠ e)
    have gk : ∀ b, b ≠ e → G'.get? b = h'.get? b := fun b hb => g1 b (decide_eq_true hb)
    have ge : G'.get? e = none := g2 e (by simp)
    have old : ∀ b o, hp.get? b = some o → G'.get? b = some o := fun b o q => (gk b (Nat.ne_of_lt (Nat.lt_of_lt_of_le (Heap.lt_size q) M.new))).trans (M.keep b o q)
    have ob : ObjOk X.prog X.w (upd H1 d (.xd [(("part" : Str), v)])) G' d (.xd [(("part" : Str), v)]) :=
      ⟨_, hns.at (fun o q => (gk d M.dne).trans q), fun f => relO_part rv f⟩
    have J : Inv X pins σ (upd H1 d (.xd [(("part" : Str), v)])) ⟨G', g, dr, tk', os⟩ := I1.laid (t' := tk') old M.dbig ob
    refine ⟨e, oe, fv, ⟨G', g, dr, tk', os⟩, _, .ref C, some d, rfl, J, fun b o q => ?_, ge, hoe, ⟨hc, hd⟩, hdat, h1, ?_, rfl, I1.bare, raises_own T.exC T.tyC, q1 d (I1.hok.fresh M.dbig)⟩
    · by_cases hb : b = e
      · have q' : G'.get? b = some o := q
        rw [hb, ge] at q'
        cases q'
      · exact (gk b hb).symm.trans q
    · rw [upd_ne (Ne.symm M.dne)]
      exact I1.hok.fresh M.new
/-- raise BadNumber(e) -/
def tRaiseBn (C : Addr) (W : WX) (ta : TA) : TS := fun _ σ H => tMkBn C ta σ H fun cls d H' => W cls d σ H'
theorem ps_raiseBn {a : Expr} {ta : TA} {W : WX} {p pos pos2 : Pos} {k : Nat} (hP : X.prog = PG) (hc : X.calm = true) (T : BnT X.K X.mg C fI) (hr : Room k X.A) (tk : Takes X W) (ha : PA X [a] ta) (hg : Gl X "BadNumber" := by rfl)
    (he : starEach (a :: []) X.env = (false, eval a X.env) :: starEach [] X.env := by rfl) (hpl : (backTo pos (starEach [] X.env)).any (·.1) = false := by rfl) :
    PS X (.Raise (some (.Call (.Name "BadNumber" p) [a] [] pos)) none pos2) (tRaiseBn C W ta) := ps_raise hc tk (pmk_bn hP T hr ha hg he hpl)
end
end Kz
end
section
set_option Elab.async false
set_option linter.all false
set_option maxRecDepth 100000
set_option maxHeartbeats 4000000
/-! an exception that a def catches and hands back; tracking and forgetting of objects -/
namespace Kz
open PySem PySem.Spec PyProof.Rows L2
/-- an exception that was caught: its class, its dict -/
def ExK (cls : Value) (d : Option Addr) (a : Addr) : HO := .ext fun h => ∃ (oe : Obj) (vs : Array Value), h.get? a = some oe ∧ Zc cls d oe ∧ oe.data = .fields vs
theorem ext_ne_tup {φ : Heap → Prop} {xs : List V} : HO.ext φ ≠ .tup xs := fun z => by cases z
section
variable {X : Cx} {pins : List (Addr × Obj)} {σ : L2.St} {H : Hp} {s : Shared} {a : Addr} {φ : Heap → Prop}
theorem del_other {H : Hp} {a b : Addr} {o : HO} (ha : H a = some (.ext φ)) (hb : H b = some o) (ho : ∀ ψ, o ≠ .ext ψ) : delH H a b = some o := by
  rw [delH_ne (fun z => ?_)]
  · exact hb
  · rw [z, ha] at hb
    exact ho φ (Option.some.inj hb).symm
/-- a thing told of by its object alone is forgotten -/
theorem inv_forget (I : Inv X pins σ H s) (ha : H a = some (.ext φ)) : Inv X pins σ (delH H a) s := by
  refine I.un (t' := s.toks) ⟨fun b o e _ _ _ => e, fun b o e _ _ _ => ⟨o.slots, e⟩, fun b o e n _ => ?_, fun b o e _ => ⟨o, e⟩, fun b xs e => del_other ha e (fun ψ z => by cases z), fun b o u e => del_other ha e (fun ψ z => by cases z), fun b ps e => ⟨#[], ?_⟩⟩ fun b u e => ?_
  · by_cases z : b = a
    · rw [z]
      exact delH_same
    · rw [delH_ne z]
      exact n
  · rw [del_other ha e (fun ψ z => by cases z)]
    simp
  · have hb : b ≠ a := fun z => by
      rw [z, delH_same] at e
      cases e
    rw [delH_ne hb] at e
    exact (I.hok b u e).stay (fun _ _ _ q => q) (fun c q => del_other ha q (fun ψ z => by cases z)) fun c xs q => del_other ha q (fun ψ z => by cases z)
/-- an untracked object of ours is tracked from now on -/
theorem inv_track (I : Inv X pins σ H s) (hn : H a = none) (ho : ∃ o, s.heap.get? a = some o ∧ ∀ v, o.data ≠ .cell v) (hφ : φ s.heap) (st : ∀ h1 h2 : Heap, φ h1 → (∀ o, h1.get? a = some o → h2.get? a = some o) → φ h2)
    (h0 : ∀ o, X.s_0.heap.get? a = some o → X.H_0 a = none → a ∈ X.ex) (hL : a ≠ X.env.locals) (hp : ∀ p ∈ X.pn ++ pins, p.1 ≠ a) : Inv X pins σ (upd H a (.ext φ)) s := by
  have ne : ∀ b u, H b = some u → b ≠ a := fun b u e => ne_of_none e hn
  have up : ∀ b u, H b = some u → upd H a (.ext φ) b = some u := fun b u e => by
    rw [upd_ne (ne b u e)]
    exact e
  obtain ⟨o, e0, hcell⟩ := ho
  have nc : ∀ y c, X.env.cells.lookup y = some c → c ≠ a := fun y c e z => by
    obtain ⟨v, oc, h1, h2⟩ := I.cell y c e
    rw [z, e0] at h1
    cases h1
    exact hcell _ h2
  refine ⟨I.ok, I.os, I.bare, ⟨I.base.keep, I.base.slot, fun b o' e n hx => ?_, I.base.there, fun b xs e => up _ _ (I.base.tups b xs e), fun b o' u e => up _ _ (I.base.frzs b o' u e), fun b ps e => ?_⟩, I.loc, I.cell, ?_, fun y c e => ?_, fun p hpp => ?_, fun b u e => ?_, I.len⟩
  · by_cases z : b = a
    · rw [z] at e n hx
      exact absurd (h0 o' e n) hx
    · rw [upd_ne z]
      exact I.base.free b o' e n hx
  · obtain ⟨m, q⟩ := I.base.tbls b ps e
    exact ⟨m, up _ _ q⟩
  · rw [upd_ne (Ne.symm hL)]
    exact I.free
  · rw [upd_ne (nc y c e)]
    exact I.freeC y c e
  · obtain ⟨q1, q2, q3, q4, q5⟩ := I.pin p hpp
    exact ⟨q1, by rw [upd_ne (hp p hpp)]; exact q2, q3, q4, q5⟩
  · by_cases z : b = a
    · rw [z, upd_same] at e
      cases e
      rw [z]
      exact ⟨hφ, ⟨o, e0⟩, st⟩
    · rw [upd_ne z] at e
      exact (I.hok b u e).stay (fun _ _ _ q => q) (fun c q => up _ _ q) fun c xs q => up _ _ q
theorem exK_stay (cls : Value) (d : Option Addr) (a : Addr) : ∀ h1 h2 : Heap, (∃ (oe : Obj) (vs : Array Value), h1.get? a = some oe ∧ Zc cls d oe ∧ oe.data = .fields vs) → (∀ o, h1.get? a = some o → h2.get? a = some o) → ∃ (oe : Obj) (vs : Array Value), h2.get? a = some oe ∧ Zc cls d oe ∧ oe.data = .fields vs :=
  fun _ _ ⟨oe, vs, e, z, f⟩ k => ⟨oe, vs, k _ e, z, f⟩
end
/-- what the clause «except x as n: y = n» wishes: slot i is n's, slot j is y's -/
def wKeep (K : PySem.W.Frag) (c : Value) (i j : Nat) (D : Ends) : WX := fun cls d σ H =>
  PySem.W.exmOne K cls c = some true ∧ ∀ a, H a = none → D.nx ((σ.set i (some (.ref a))).set j (some (.ref a)) |>.set i none) (upd H a (ExK cls d a))
section
variable {X : Cx} {x n y : Str} {c : Value} {i j : Nat} {b₀ : Stmt} {np pos pos' py pn2 ap : Pos} {tb : WX → TS}
theorem ps_try_keep (hs : X.stack = X.env :: X.outer) (hf : X.env.frame = some X.env.locals) (hN : X.N.Nodup) (hi : X.N[i]? = some n) (hln : X.env.kindOf n = some .local) (hj : X.N[j]? = some y) (hly : X.env.kindOf y = some .local) (hc : Names X x c)
    (hdb : (n == ("__debug__" : Str)) = false) (hcd : (n == ("__classdict__" : Str)) = false) (hex : X.ex = []) (hlen : ∀ σ : L2.St, σ.length = X.N.length → i < σ.length)
    (hb : ∀ (W : WX) (pn : List (Addr × Obj)) (xe : Value → Shared → Prop), Takes (X.tr pn xe) W → PassesOwn (model X.prog X.w) X.A X.env xe → PSs (X.tr pn xe) [b₀] (tb W))
    (hsw : swapsWith (.Name n pn2) (some (.Name y py)) ap.line X.env = pure false) :
    PS X (.Try [b₀] [.ExceptHandler (some (.Name x np)) (some n) [.Assign [.Name y py] (.Name n pn2) ap] pos'] [] [] pos) (fun D σ H => tb (wKeep X.K c i j D) D σ H) := by
  refine ⟨fun pins s σ H D I h => ?_⟩
  have ok := I.ok
  have frm : X.A.frames = some (X.env :: X.outer) := ok.frames.trans (congrArg some hs)
  refine wpAny_Try_except ?_
  refine wpAny_mono ((hb (wKeep X.K c i j D) (X.pn ++ pins) (fun e s₁ => wpAny (model X.prog X.w) X.A (noteFrame e X.env) (fun _ s₂ => wpAny (model X.prog X.w) X.A (setFlight e none)
    (fun _ s₃ => wpAny (model X.prog X.w) X.A (handleBy e X.env [.ExceptHandler (some (.Name x np)) (some n) [.Assign [.Name y py] (.Name n pn2) ap] pos']) (SP X pins D) X.xe s₃) X.xe s₂) X.xe s₁)
      (fun u s' xx => ?_) PassesOwn.looking).run [] s σ H D (I.toTry _) h) (fun f s1 hsp => ?_) (fun e s1 he => he)
  · obtain ⟨a, B, sI, pins1, σ1, H1, cls, d, rfl, J0, nb, up, sky, na, eos, ag, hyes, hgo⟩ := xx
    have J : Inv X pins σ1 H1 sI := J0.ofTry ok
    rw [show (X.tr (X.pn ++ pins) _).stack = X.env :: X.outer from hs] at sky
    show wpAny (model X.prog X.w) X.A (noteFrame (.ref a) X.env) _ _ _
    refine Sky.land Zc.steady frm hf sky fun h3 fl3 up3 => ?_
    have J3 : Inv X pins σ1 H1 { s' with heap := h3 } := J.landed nb fl3.1 (up.trans up3) eos ag
    obtain ⟨oe3, vs3, he3, hz3, hd3⟩ := fl3.there
    have nfr : a ∉ frs (X.env :: X.outer) := fun hm => by
      obtain ⟨_, o', e', hnf⟩ := fl3.2.2.1.mem hm
      rw [he3] at e'
      cases e'
      exact hnf _ hd3
    have nL : a ≠ X.env.locals := fun z => nfr (List.mem_filterMap.mpr ⟨X.env, List.mem_cons_self, by rw [hf, z]⟩)
    have nF : a ∉ X.fs := fun hm => by
      obtain ⟨e, he, q⟩ := List.mem_filterMap.mp hm
      exact nfr (List.mem_filterMap.mpr ⟨e, List.mem_cons_of_mem _ he, q⟩)
    have hBa : B.get? a = none := fl3.2.1
    have notI : ∀ o, sI.heap.get? a ≠ some o := fun o e => by
      have z := nb a o e (by rw [hs]; exact nfr)
      rw [hBa] at z
      cases z
    have S3 := J3.suite he3 hd3 na nL nF
    refine wpAny_handleBy_cons (codeAny_handlers_test ?_) (by intro q; cases q)
    have LT : PySem.W.Looks (model X.prog X.w) h3 (typeOf (.ref a)) cls := fun A Q E s k q => wpAny_typeOf_ref (k _ _ he3) (by rw [hz3.1]; exact q)
    have LM := PySem.W.exm_one (M := model X.prog X.w) (J3.kIn) LT hyes
    have test : ∀ {Q : Value → Shared → Prop} {E : Value → Shared → Prop}, Q c { s' with heap := h3 } → wpAny (model X.prog X.w) (X.A.mark (some (.ref a))) (eval (.Name x np) X.env) Q E { s' with heap := h3 } := fun {Q E} q => by
      obtain ⟨g1, g2, g3 | ⟨g3, g4, g5⟩⟩ := hc
      · exact ld_glob (X := X.suite a ((a, oe3) :: (X.pn ++ pins))) S3 g1 g3 q g2
      · exact ld_blt (X := X.suite a ((a, oe3) :: (X.pn ++ pins))) S3 g1 g3 g4 q g5 g2
    refine test (LM.here ?_)
    refine codeAny_handlers_suite_as (HandSPX.lands_againZ fl3 fun h4 fl4 up4 => ?_)
    have J4 : Inv X pins σ1 H1 { s' with heap := h4 } := J.landed nb fl4.1 ((up.trans up3).trans up4) eos ag
    obtain ⟨oe4, vs4, he4, hz4, hd4⟩ := fl4.there
    have S4 := J4.suite he4 hd4 na nL nF
    refine store_ok (X := X.suite a ((a, oe4) :: (X.pn ++ pins))) (v := .ref a) S4 hN hi (.inl hln) rfl (fun s5 S5 => ?_) (.inr hln)
    have asg : PSs (X.suite a ((a, oe4) :: (X.pn ++ pins))) [.Assign [.Name y py] (.Name n pn2) ap] (tAsg (tVar i) (gName j)) := pss_one (ps_set hN hj (.inl hly) (pe_var hi (.inl hln) hdb hcd) hsw (.inr hly))
    refine wpAny_mono (asg.run [] s5 _ H1 { nx := fun σ' H' => σ' = (σ1.set i (some (.ref a))).set j (some (.ref a)) ∧ H' = H1, rt := fun _ _ => False, bk := fun _ _ => False, ct := fun _ _ => False } S5
      ⟨.ref a, List.getElem?_set_self (hlen σ1 J4.len), rfl, rfl⟩) (fun f s6 hsp => ?_) (fun _ _ z => False.elim z)
    cases f with
    | next =>
      obtain ⟨σ6, H6, S6, eσ, eH⟩ := hsp
      subst eσ
      subst eH
      have at6 := (S6.pin (a, oe4) (List.mem_append_left _ List.mem_cons_self)).1
      have I6 := S6.unsuite ok
      have T6 := inv_track (φ := fun h => ∃ (oe : Obj) (vs : Array Value), h.get? a = some oe ∧ Zc cls d oe ∧ oe.data = .fields vs) I6 na ⟨oe4, at6, fun v => by rw [hd4]; intro z; cases z⟩ ⟨oe4, vs4, at6, hz4, hd4⟩ (exK_stay cls d a)
        (fun o e n => by
          obtain ⟨o', e'⟩ := J.base.there a o e (by rw [hex]; exact List.not_mem_nil)
          exact absurd e' (notI o')) nL (fun p hp z => by
          have q := (J.pin p hp).1
          rw [z] at q
          exact notI _ q)
      exact gone_ok T6 hN hi hln fun s7 J7 => ⟨_, _, J7, hgo a na⟩
    | brk =>
      obtain ⟨_, _, _, z⟩ := hsp
      exact z.elim
    | cont =>
      obtain ⟨_, _, _, z⟩ := hsp
      exact z.elim
    | ret u =>
      obtain ⟨_, _, _, _, _, z⟩ := hsp
      exact z.elim
  · cases f with
    | next =>
      obtain ⟨σ1, H1, J1, q⟩ := hsp
      exact wpAny_execs_nil ⟨σ1, H1, J1.ofTry ok, q⟩
    | brk =>
      obtain ⟨σ1, H1, J1, q⟩ := hsp
      exact ⟨σ1, H1, J1.ofTry ok, q⟩
    | cont =>
      obtain ⟨σ1, H1, J1, q⟩ := hsp
      exact ⟨σ1, H1, J1.ofTry ok, q⟩
    | ret u =>
      obtain ⟨v, σ1, H1, J1, r, q⟩ := hsp
      exact ⟨v, σ1, H1, J1.ofTry ok, r, q⟩
end
end Kz
end
section
set_option Elab.async false
set_option linter.all false
set_option maxRecDepth 100000
set_option maxHeartbeats 4000000
/-! lambdas without parameters: made as values, called within _law_caught -/
namespace Kz
open PySem PySem.Spec PyProof.Rows L2 LamX
abbrev s_caught : Stmt := sl_caught
/-- the lambda's object at f, its code object at c' -/
def LamAt (q : Str) (params : Arguments) (body : Expr) (scope : Scope) (cells : List (Str × Addr)) (f c' : Addr) : HO :=
  .ext fun h => ∃ pm ctv : Value, h.get? f = some (PySem.W.kla_obj "<lambda>" q params body scope (cloFrom cells scope.names []) pm c' ctv)
section
variable {X : Cx}
def tLamO (X : Cx) (T : List (Addr × Str)) (params : Arguments) (body : Expr) (scope : Scope) : TE := fun σ H Q =>
  Tabs T H ∧ ∀ (f c' : Addr) (H1 : Hp), ExtN H H1 → Tabs T H1 → H1 f = none → f ∉ frs X.stack → H1 c' = some (CodeO c' (X.env.qual ++ "<lambda>")) → Q (.ref f) (upd H1 f (LamAt (X.env.qual ++ "<lambda>") params body scope X.env.cells f c'))
/-- a new object of ours, tracked by what is true of it -/
theorem inv_new {pins : List (Addr × Obj)} {σ : L2.St} {H : Hp} {s : Shared} {f : Addr} {o : Obj} {φ : Heap → Prop} (I : Inv X pins σ H s) (hn : H f = none) (hs : X.s_0.heap.objs.size ≤ f) (he : s.heap.get? f = some o) (hd : ∀ v, o.data ≠ .cell v) (hL : f ≠ X.env.locals)
    (hφ : φ s.heap) (st : ∀ h1 h2 : Heap, φ h1 → (∀ o, h1.get? f = some o → h2.get? f = some o) → φ h2) (hp : ∀ p ∈ X.pn ++ pins, p.1 ≠ f) : Inv X pins σ (upd H f (.ext φ)) s :=
  inv_track I hn ⟨o, he, hd⟩ hφ st (fun o' e _ => absurd (Nat.lt_of_lt_of_le (Heap.lt_size e) hs) (Nat.lt_irrefl _)) hL hp
/-- a lambda as a value -/
theorem pe_lam {T : List (Addr × Str)} {c P : Addr} {params : Arguments} {body : Expr} {scope : Scope} {pos : Pos} (TB : TabB X.base X.mg c P) (hcode : X.env.code = .ref c) (hm : (P, X.env.qual ++ "<lambda>") ∈ T) (hu : ∀ p ∈ T, p.1 = P → p.2 = X.env.qual ++ "<lambda>")
    (L : LamS X.env.scope scope) (hdef : defaultsOf params X.env = ([], [])) : PE X (.Lambda params body scope pos) (tLamO X T params body scope) := by
  refine ⟨fun pins s σ H Q I h => ?_⟩
  obtain ⟨hT, h⟩ := h
  obtain ⟨ps, hP, htr, hal⟩ := hT _ hm
  refine PySem.W.kla_eval hdef ?_
  have hPo : s.heap.get? P = some { cls := .none, data := .fields ps } := I.hok P _ hP
  have szL := I.lt
  have szS := I.sz
  have far : ∀ f, s.heap.objs.size ≤ f → f ∉ frs X.stack := fun f hf z => by
    rcases List.mem_cons.mp (I.stkSub _ z) with e | e
    · rw [e] at hf
      exact absurd (Nat.lt_of_lt_of_le szL hf) (Nat.lt_irrefl _)
    · exact I.nofs hf e
  have pinNe : ∀ f, s.heap.objs.size ≤ f → ∀ p ∈ X.pn ++ pins, p.1 ≠ f := fun f hf p hp z => by
    have q := Heap.lt_size (I.pin p hp).1
    rw [z] at q
    exact absurd (Nat.lt_of_lt_of_le q hf) (Nat.lt_irrefl _)
  -- the end, from a state in which the code object is known
  have fin : ∀ (f c' : Addr) (pm ctv : Value) (H1 : Hp) (s' : Shared), s.heap.objs.size ≤ f → Inv X pins σ H1 s' → ExtN H H1 → Tabs T H1 → s'.heap.get? f = some (PySem.W.kla_obj "<lambda>" (X.env.qual ++ "<lambda>") params body scope (cloFrom X.env.cells scope.names []) pm c' ctv) → H1 f = none →
      H1 c' = some (CodeO c' (X.env.qual ++ "<lambda>")) → EP X pins σ Q (.ref f) s' := fun f c' pm ctv H1 s' hf I1 eN T1 ho hn hco => by
    have I2 := inv_new (φ := fun h => ∃ pm ctv : Value, h.get? f = some (PySem.W.kla_obj "<lambda>" (X.env.qual ++ "<lambda>") params body scope (cloFrom X.env.cells scope.names []) pm c' ctv)) I1 hn (Nat.le_trans szS hf) ho (fun v z => by cases z) (Nat.ne_of_gt (Nat.lt_of_lt_of_le szL hf)) ⟨pm, ctv, ho⟩
      (fun _ _ ⟨a, b, e⟩ k => ⟨a, b, k _ e⟩) (pinNe f hf)
    exact ⟨.ref f, _, I2, rfl, h f c' H1 eN T1 hn (far f hf) hco⟩
  cases hc : codeAmong pos ps.toList with
  | some cv =>
    obtain ⟨c', e, hco⟩ := hal pos cv hc
    subst e
    refine PySem.W.kla_makeFunctionHit (mg := X.mg) (c := c) (P := P) (ps := ps) (closure_ok (L.has I.ok)) I.ok.glob (I.mod.glob.keeps I.bk) hcode (TB.code.keeps I.bk) hPo htr hc (TB.bm.keeps I.bk) fun ctv h' tk hx hsz => ?_
    exact fin h'.objs.size c' _ ctv H _ hsz (I.kept (t' := tk) fun b o e => Heap.get?_push_of_some _ (hx b o e)) (ExtN.refl H) hT (Heap.get?_push_size _ rfl) (I.hok.fresh hsz) hco
  | none =>
    refine PySem.W.kla_makeFunction (mg := X.mg) (c := c) (P := P) (ps := ps) (closure_ok (L.has I.ok)) I.ok.glob (I.mod.glob.keeps I.bk) hcode (TB.code.keeps I.bk) hPo htr hc TB.gP (TB.bm.keeps I.bk) fun c' ctv h' tk hx hge hlt hrec htb => ?_
    obtain ⟨c2, oc, vs, t, e2, hoc, hd, hv⟩ := hrec
    cases e2
    have hsz : s.heap.objs.size ≤ h'.objs.size := Nat.le_trans hge (Nat.le_of_lt hlt)
    have nC : H c' = none := I.hok.fresh hge
    have kp : ∀ b o, h'.get? b = some o → (h'.push (PySem.W.kla_obj "<lambda>" (X.env.qual ++ "<lambda>") params body scope (cloFrom X.env.cells scope.names []) ((X.mg "__name__").getD .none) c' ctv)).get? b = some o := fun b o e => Heap.get?_push_of_some _ e
    have I1 := inv_table (t' := tk) (more := #[rawInt pos.line, rawInt pos.col, .ref c']) I hP (fun b o hb e => kp b o (hx b o hb e)) (kp _ _ htb) hge ⟨oc, vs, t, kp _ _ hoc, hd, hv⟩
    have hE : ExtN H (upd (upd H P (.tbl (ps ++ #[rawInt pos.line, rawInt pos.col, .ref c']))) c' (CodeO c' (X.env.qual ++ "<lambda>"))) := fun b o e n => by
      have nbP : b ≠ P := fun z => n ps (by rw [z, hP] at e; exact (Option.some.inj e).symm)
      rw [upd_ne (ne_of_none e nC), upd_ne nbP]
      exact e
    have nCP : P ≠ c' := ne_of_none hP nC
    refine fin h'.objs.size c' _ ctv _ _ hsz I1 hE (fun p hp => ?_) (Heap.get?_push_size _ rfl) ?_ upd_same
    · by_cases hb : p.1 = P
      · rw [hu p hp hb, hb]
        have eL : (ps ++ #[rawInt pos.line, rawInt pos.col, .ref c']).toList = ps.toList ++ [rawInt pos.line, rawInt pos.col, .ref c'] := by simp
        refine ⟨_, (upd_ne nCP).trans upd_same, eL ▸ PySem.TriplesOk_snoc _ _ _ _ htr, fun p' cv hcv => ?_⟩
        rw [eL] at hcv
        rcases among_app _ htr hcv with z | z
        · obtain ⟨c0, q1, q2⟩ := hal p' cv z
          exact ⟨c0, q1, hE _ _ q2 codeO_ne⟩
        · exact ⟨c', z, upd_same⟩
      · obtain ⟨qs, a1, a2, a3⟩ := hT p hp
        refine ⟨qs, ?_, a2, fun p' cv hcv => ?_⟩
        · rw [upd_ne (ne_of_none a1 nC), upd_ne hb]
          exact a1
        · obtain ⟨c0, q1, q2⟩ := a3 p' cv hcv
          exact ⟨c0, q1, hE _ _ q2 codeO_ne⟩
    · rw [upd_ne (Nat.ne_of_gt hlt), upd_ne (Nat.ne_of_gt (Nat.lt_of_lt_of_le (Heap.lt_size hPo) hsz))]
      exact I.hok.fresh hsz
theorem takesLen {W : WX} (t : Takes X W) : Takes X (fun cls d σ H => σ.length = X.N.length → W cls d σ H) := fun u s' ⟨a, B, sI, pins, σ, H, cls, d, e, I, nb, up, sky, na, os, ag, w⟩ =>
  t u s' ⟨a, B, sI, pins, σ, H, cls, d, e, I, nb, up, sky, na, os, ag, w I.len⟩
/-- what is asked of a lambda: its names, how it binds, its body's rule -/
structure LamGood (X : Cx) (k : Nat) (params : Arguments) (body : Expr) (scope : Scope) (t : XK → TE) : Prop where
  L : LamS X.env.scope scope
  bind : ∀ (q : Str) (cl : List (Str × Addr)) (pm cv ctv : Value), bindArgs (PySem.W.kla_fn "<lambda>" q params body scope cl pm cv ctv) ⟨[], []⟩ = pure []
  run : ∀ (A : Around) (outer : List Env) (s : Shared) (H : Hp) (E : XK) (f c' : Addr), Room k (A.deeper (lamEnv X scope s.heap.objs.size f c')) → PE (lamCx X A outer s H E scope f c') body (t E)
abbrev NgC : List Str := ["_law_work", "_law_caught_here", "error"]
theorem scCaught : FnScope NgC ["_law_work"] (defScope s_caught) := ⟨rfl, rfl, rfl, by decide +kernel, rfl, by decide +kernel, by decide +kernel⟩
/-- _law_caught(w), w a lambda that raises: the reading -/
def tCaught (X : Cx) (k iw : Nat) (σ0 : L2.St) (fp : List Addr) (CS : Addr) : TE := fun σ H Q => ∃ (f c' : Addr) (params : Arguments) (body : Expr) (scope : Scope) (t : XK → TE), LamGood X k params body scope t ∧ σ[iw]? = some (some (.ref f)) ∧
  H f = some (LamAt (X.env.qual ++ "<lambda>") params body scope X.env.cells f c') ∧ H c' = some (CodeO c' (X.env.qual ++ "<lambda>")) ∧ f ≠ c' ∧ f ∉ frs X.stack ∧ f ∉ fp ∧
  ∀ Qn : VK, t (fun cls d H1 => PySem.W.exmOne X.K cls (.ref CS) = some true ∧ ∀ a, H1 a = none → (upd H1 a (ExK cls d a)) f = none → Q (.ref a) (upd (upd H1 a (ExK cls d a)) f (LamAt (X.env.qual ++ "<lambda>") params body scope X.env.cells f c'))) σ0 (delH H f) Qn
theorem pe_caught {pins0 : List (Addr × Obj)} {σ0 : L2.St} {s3 : Shared} {H3 : Hp} {scopeB : Scope} {cenv : Env} {fp : List Addr} {k iw : Nat} {g CS : Addr} {pg : Arguments} {dV kV doc pm cdv ct oc : Value} {an od : Option Addr} {osl : Array (Option Value)} {y : Str} {p p2 pos : Pos}
    (back : ∀ (pins' : List (Addr × Obj)) (σ' : L2.St) (H' : Hp) (s' : Shared), Inv (X.blk s3 H3 scopeB cenv fp) pins' σ' H' s' → Inv X pins0 σ0 H' s')
    (hg : Gl (X.blk s3 H3 scopeB cenv fp) "_law_caught") (hm : X.mg "_law_caught" = some (.ref g)) (hk : PySem.W.keepIn X.K (.ref g) = true)
    (lk : X.K.lookup g = some ⟨oc, od, .func (PySem.W.fnOf "_law_caught" "_law_caught" pg (defBody s_caught) (defScope s_caught) dV kV doc pm an cdv ct), osl⟩) (hcg : PySem.W.codeIn X.K cdv "_law_caught" = true)
    (hb : Binds X.K (PySem.W.fnOf "_law_caught" "_law_caught" pg (defBody s_caught) (defScope s_caught) dV kV doc pm an cdv ct) ["_law_work"] []) (hCS : X.mg "RuleError" = some (.ref CS))
    (hN : X.N[iw]? = some y) (hv : Vis cenv.scope y) (hr : Room (k + 2) X.A) (hdb : (y == ("__debug__" : Str)) = false) (hcd : (y == ("__classdict__" : Str)) = false) :
    PE (X.blk s3 H3 scopeB cenv fp) (.Call (.Name "_law_caught" p) [.Name y p2] [] pos) (tCaught X k iw σ0 fp CS) := by
  refine ⟨fun pins' s' σ' H' Q I h => ?_⟩
  obtain ⟨f, c', params, body, scope, t, G, hs, hf, hc', hfc, hfr, hfp, ht⟩ := h
  refine wpAny_Call_Name_kw (ld_glob I hg hm ?_)
  refine PySem.W.callWith_K (h₀ := X.base) I.ok.mod.kin hk ?_ (by rfl) (by rfl)
  show wpAny _ _ (spliced ((false, eval (.Name y p2) cenv) :: backTo pos (starEach [] cenv))) _ _ s'
  refine Calls.spliced_cons (thn ((pe_var (X := X.blk s3 H3 scopeB cenv fp) (pos := p2) hN hv hdb hcd).run pins' s' σ' H' (fun v H1 => v = .ref f ∧ H1 = H') I ⟨.ref f, hs, rfl, rfl⟩) fun u s1 ⟨v, H1, I1, r1, q1⟩ => ?_)
  obtain ⟨ev, eH⟩ := q1
  subst ev
  rw [eH] at I1
  obtain rfl : u = Value.ref f := r1
  refine Calls.spliced_nil ⟨I1.kIn, ?_⟩
  have I2 := inv_forget I1 hf
  have J2 := back _ _ _ _ I2
  obtain ⟨⟨pm', ctv, of1⟩, _, _⟩ := I1.hok f _ hf
  have nf : delH H' f f = none := delH_same
  have hc2 : delH H' f c' = some (CodeO c' (X.env.qual ++ "<lambda>")) := by
    rw [delH_ne (Ne.symm hfc)]
    exact hc'
  have rc : codeAny (model X.prog X.w) X.A (.call (.ref g) ⟨[.ref f], []⟩) (CR L2.CX0 X.stack X.prog X.w (delH H' f) s1 (fun v H2 => H2 f = none → Q v (upd H2 f (LamAt (X.env.qual ++ "<lambda>") params body scope X.env.cells f c'))) E0) s1 := by
    refine run_ofS (N := NgC) (ps := ["_law_work"]) (us := [.ref f]) (vs := [.ref f]) lk hcg scCaught hr J2.env0 (hb s1 [.ref f] J2.kIn rfl) (.cons rfl .nil) rfl fun hr' => ?_
    refine ⟨_, PSs.nox (pss_cons (ps_set (i := 1) scCaught.nd rfl (.inl rfl) pe_non) (pss_cons (ps_try_keep (i := 2) (j := 1) (c := .ref CS)
      (tb := fun W D σ H => ∃ Ech : XK, (∀ cls d σ' H', Ech cls d H' → σ'.length = 3 → W cls d σ' H') ∧ σ[0]? = some (some (.ref f)) ∧ H c' = some (CodeO c' (X.env.qual ++ "<lambda>")) ∧ ∀ Qn : VK, t Ech σ0 H Qn)
      rfl rfl scCaught.nd rfl rfl rfl rfl ⟨rfl, by decide, .inl hCS⟩ (by decide) (by decide) rfl (fun σ hl => by rw [hl]; show 2 < 3; decide) (fun W pn xe tk _ => ⟨fun pinsZ sZ σZ HZ D IZ hZ => ?_⟩) (by rfl)) (pss_one (ps_ret (pv 1))))), ?_⟩
    · obtain ⟨Ech, hW, z1, z2, z3⟩ := hZ
      exact (pss_one (ps_expr (pe_act (CXg := L2.CX0) (Eg := E0) (i := 0) J2 G.L of1 nf hfr (G.bind _ _ _ _ _) (takesLen tk) (fun cls d σ' H' e hl => hW cls d σ' H' e hl) hr' (fun A outer s H hr2 => G.run A outer s H Ech f c' hr2) rfl (.inl rfl)))).run pinsZ sZ σZ HZ D IZ ⟨z1, z2, z3 _⟩
    · refine ⟨_, fun cls d σ' H1 e hl => ⟨e.1, fun a ha => ?_⟩, rfl, hc2, ht⟩
      refine ⟨.ref a, ?_, e.2 a ha⟩
      obtain ⟨x0, x1, x2, rfl⟩ : ∃ x0 x1 x2, σ' = [x0, x1, x2] := match σ', hl with
        | [x0, x1, x2], _ => ⟨x0, x1, x2, rfl⟩
      rfl
  refine wpAny_call (codeAny_mono rc fun r s2 hq => ?_)
  cases r with
  | error e => exact (show False from hq).elim
  | ok fl =>
    cases fl with
    | next => exact False.elim hq
    | brk => exact False.elim hq
    | cont => exact False.elim hq
    | ret u =>
      obtain ⟨v, H2, os, bare, un, hok, rel, q⟩ := hq
      obtain ⟨v3, H3', I3, _, ev, eH⟩ := I2.after (Q := fun v' H'' => v' = v ∧ H'' = H2) ⟨v, H2, os, bare, un, hok, rel, rfl, rfl⟩
      rw [eH] at I3
      have nf2 : H2 f = none := un.free f _ of1 nf (by simp)
      have of2 := un.keep f _ of1 nf hfr (by simp)
      refine ⟨v, _, inv_track (φ := fun h => ∃ pm ctv : Value, h.get? f = some (PySem.W.kla_obj "<lambda>" (X.env.qual ++ "<lambda>") params body scope (cloFrom X.env.cells scope.names []) pm c' ctv)) I3 nf2 ⟨_, of2, fun v z => by cases z⟩ ⟨pm', ctv, of2⟩ (fun _ _ ⟨a, b, e⟩ k => ⟨a, b, k _ e⟩)
        (fun o e n => ?_) (fun z => ?_) (fun p hp z => ?_), rel, q nf2⟩
      · exact absurd (I1.base.free f o e n hfp) (by rw [hf]; intro z; cases z)
      · have q := I1.free
        rw [← z, hf] at q
        cases q
      · have q := (I1.pin p hp).2.1
        rw [z, hf] at q
        cases q
end
end Kz
end
section
set_option Elab.async false
set_option linter.all false
set_option maxRecDepth 100000
set_option maxHeartbeats 4000000
/-! a list comprehension whose element is read with the maker's frame at hand -/
namespace Kz
open PySem PySem.Spec PyProof.Rows L2
section
variable {X : Cx}
theorem pe_lcB {elt tg iter : Expr} {scope : Scope} {own : List (Str × Nat)} {pos : Pos} {wi : TI} {g : TG} {te : TE} (hc : X.calm = true) (hN : X.N.Nodup) (hi : PI X tg iter wi) (ok : BlkOk X.N X.env.scope scope own)
    (hg : ∀ (s : Shared) (H : Hp) (C : Addr) (cl : List (Str × Addr)) (fp : List Addr), L2.PG (X.blk s H scope (compEnvC scope cl C X.env) fp) tg g)
    (he : ∀ (pins : List (Addr × Obj)) (σ : L2.St) (s : Shared) (H : Hp) (C : Addr) (cl : List (Str × Addr)) (fp : List Addr), Inv X pins σ H s →
      (∀ (pins' : List (Addr × Obj)) (σ' : L2.St) (H' : Hp) (s' : Shared), Inv (X.blk s H scope (compEnvC scope cl C X.env) fp) pins' σ' H' s' → Inv X pins σ H' s') →
      ∀ (pins' : List (Addr × Obj)) (s' : Shared) (σ' : L2.St) (H' : Hp) (Q : VK), Inv (X.blk s H scope (compEnvC scope cl C X.env) fp) pins' σ' H' s' → (∀ b ∈ fp, H' b = none) → wipe σ' (own.map (·.2)) = wipe σ (own.map (·.2)) → te σ' H' Q →
        wpAny (model X.prog X.w) X.A (eval elt (compEnvC scope cl C X.env)) (EP (X.blk s H scope (compEnvC scope cl C X.env) fp) pins' σ' Q) (fun _ _ => False) s')
    (hs : ∀ x, foldedSetIterable iter X.env x = pure x := by intro _; rfl) : PE X (.ListComp elt [⟨tg, iter, [], 0⟩] scope pos) (tLc wi g tYes te (own.map (·.2))) := by
  refine ⟨fun pins s σ H Q I h => ?_⟩
  rw [eval_ListComp]
  have free : ∀ y ∈ scope.names, y.2 = .free → ∃ c, X.env.cells.lookup y.1 = some c := fun y hy e => (ok.free y hy e).elim (fun k => I.ok.has _ (.inl k)) fun k => I.ok.has _ (.inr k)
  refine wpAny_comprehension_free (use := none) rfl hs (closure_ok free) ok.kind (fun y hy e => (ok.uniq y hy).trans (congrArg some e)) (thn (hi.run pins s σ H _ I h) fun xv s1 hx => thn hx fun itv s2 h2 => ?_)
  obtain ⟨it, fp, tn, J, H2, rfl, I2, T, st2, f2, q⟩ := h2
  refine wpAny_newObj_type (newEnv_comp ?_) (by show 0 ≤ sizeLine; decide)
  obtain ⟨D, hD⟩ : ∃ D, D = s2.heap.objs.size := ⟨_, rfl⟩
  obtain ⟨W, ⟨m0, w0⟩, turn⟩ := q D (I2.hok.fresh (Nat.le_of_eq hD.symm))
  have hD2 : s2.heap.objs.size = D := hD.symm
  rw [hD2]
  obtain ⟨s3, hs3⟩ : ∃ s3 : Shared, s3 = { s2 with heap := s2.heap.push { cls := .type "list", data := .seq ([] : List Value).toArray } } := ⟨_, rfl⟩
  obtain ⟨H3, hH3⟩ : ∃ H3 : Hp, H3 = upd H2 D (.lst []) := ⟨_, rfl⟩
  have heap3 : s3.heap = s2.heap.push { cls := .type "list", data := .seq ([] : List Value).toArray } := by rw [hs3]
  have kp3 : ∀ b o, s2.heap.get? b = some o → s3.heap.get? b = some o := fun b o e => by
    rw [heap3]
    exact Heap.get?_push_of_some _ e
  have I3 : Inv X pins σ H3 s3 := by
    have at3 : s3.heap.get? D = some { cls := .type "list", data := .seq ([] : List Value).toArray } := by
      rw [heap3, hD]
      exact Heap.get?_push_size _ rfl
    have z := I2.laid (t' := s2.toks) (o := .lst []) kp3 (Nat.le_of_eq hD2) ⟨Nat.zero_le _, [], 0, .nil, at3⟩
    rw [hH3, hs3]
    rw [hs3] at z
    exact z
  rw [← hH3] at w0
  have f3 : ∀ b ∈ fp, FpOk X pins H3 b ∧ b < s3.heap.objs.size := fun b hb => by
    obtain ⟨o, e, _⟩ := T.obj _ _ st2 b hb
    have lt := Heap.lt_size e
    have ne : b ≠ D := fun z => by
      rw [z, hD] at lt
      exact Nat.lt_irrefl _ lt
    refine ⟨⟨?_, (f2 b hb).2⟩, Heap.lt_size (kp3 b o e)⟩
    rw [hH3, upd_ne ne]
    exact (f2 b hb).1
  have st3 : tn 0 s3.heap := T.keep _ _ _ st2 fun b _ o e => kp3 b o e
  have I4 := block_start I3 ok hN f3
  obtain ⟨cl, hcl⟩ : ∃ cl, cl = cellsFrom (s3.heap.objs.size + 1) scope.names (cloFrom X.env.cells scope.names []) := ⟨_, rfl⟩
  rw [← hcl] at I4
  have pg := hg s3 H3 s3.heap.objs.size cl fp
  obtain ⟨s4, hs4⟩ : ∃ s4 : Shared, s4 = { s3 with heap := pushCells (s3.heap.push { cls := .type "dict", data := .dict #[] }) scope.names } := ⟨_, rfl⟩
  rw [← hs4] at I4
  have st4 : tn 0 s4.heap := T.keep _ _ _ st3 fun b _ o e => by
    rw [hs4]
    exact pushCells_keeps _ _ _ _ (Heap.get?_push_of_some _ e)
  have n3 : ∀ b ∈ fp, H3 b = none := fun b hb => (f3 b hb).1.1
  have stat : ∀ {σ' : L2.St} {H' : Hp} {s' : Shared}, Inv (X.blk s3 H3 scope (compEnvC scope cl s3.heap.objs.size X.env) fp) [] σ' H' s' → (∀ b ∈ fp, H' b = none) → ∀ b ∈ fp, FpOk (X.blk s3 H3 scope (compEnvC scope cl s3.heap.objs.size X.env) fp) [] H' b :=
    fun {σ' H' s'} I' hn b hb => ⟨hn b hb, (I'.ok.exf b hb).1, I'.ok.exfs b hb, .inl hb, (I'.ok.exf b hb).2 , fun p hp => by cases hp⟩
  have back : ∀ (pins' : List (Addr × Obj)) (σ' : L2.St) (H' : Hp) (s' : Shared), Inv (X.blk s3 H3 scope (compEnvC scope cl s3.heap.objs.size X.env) fp) pins' σ' H' s' → Inv X pins σ H' s' := fun pins' σ' H' s' I' =>
    I3.call' (ch := fp) I'.os I'.base I'.hok I'.bare fun b hb => ⟨(f3 b hb).1.2.2.2.1, (f3 b hb).1.2.1, (f3 b hb).1.2.2.2.2.1, (f3 b hb).1.2.2.2.2.2⟩
  have loop : codeAny (model X.prog X.w) X.A (.compLoop (.ListComp elt [⟨tg, iter, [], 0⟩] scope pos) 0 (.ref it) (.ref D) (compEnvC scope cl s3.heap.objs.size X.env)) (compPost (model X.prog X.w) X.A X.xe none (EP X pins σ Q) (.ref D) s3.heap.objs.size) s4 := by
    refine compLoop_any (fun n s' => ∃ i H', Inv (X.blk s3 H3 scope (compEnvC scope cl s3.heap.objs.size X.env) fp) [] (wipe σ (own.map (·.2))) H' s' ∧ tn i s'.heap ∧ (∀ b ∈ fp, H' b = none) ∧ W i n H') ?_ m0 ⟨0, H3, I4, st4, n3, w0⟩
    rintro n s5 ⟨i, H5, I5, st5, n5, w5⟩
    rcases turn i n H5 w5 with ⟨stop, qq⟩ | ⟨go, Nx, hNx, step⟩
    · refine thnF (T.done (X.blk s3 H3 scope (compEnvC scope cl s3.heap.objs.size X.env) fp) rfl rfl rfl hc i [] s5 _ H5 (fun _ _ => False) I5 (stat I5 n5) st5 stop) fun r s6 ⟨hr, I6⟩ => ?_
      subst hr
      have I7 : Inv X pins σ H5 s6 := back _ _ _ _ I6
      have nC : H5 s3.heap.objs.size = none := I6.free
      obtain ⟨m, hn, _⟩ := I6.loc
      obtain ⟨e0, e1, e2, e3, e4, e5⟩ := I3.fpOk (Nat.le_refl s3.heap.objs.size) nC
      exact ⟨m, hn, fun h'' sb => ⟨.ref D, H5, I7.turned (t' := s6.toks) (fun b o hb e => (sb.2 b hb).trans e) e0 e1 e3 e4 e5, rfl, qq⟩⟩
    · refine thnF (T.item (X.blk s3 H3 scope (compEnvC scope cl s3.heap.objs.size X.env) fp) rfl rfl rfl hc i [] s5 _ H5 (fun _ _ => False) I5 (stat I5 n5) st5 go) fun r s6 ⟨u, hr, h6⟩ => ?_
      subst hr
      refine thnF h6 fun _ s7 ⟨x, H7, I7, r7, y7, st7, n7⟩ => ?_
      have P7 := I7.pinned (stat I7 n7) (T.obj _ _ st7)
      refine thnF (pg.run _ s7 _ H7 x u _ P7 r7 (step x H7 y7)) fun _ s8 ⟨σ8, H8, I8, hw8, q8⟩ => ?_
      refine thnF ((pts_nil (X := X.blk s3 H3 scope (compEnvC scope cl s3.heap.objs.size X.env) fp)).run _ s8 σ8 H8 _ I8 q8) fun b s9 ⟨H9, I9, q9⟩ => ?_
      have pinned : ∀ {σ' : L2.St} {s' : Shared} {H' : Hp}, Inv (X.blk s3 H3 scope (compEnvC scope cl s3.heap.objs.size X.env) fp) ([] ++ pinsAt fp s7.heap) σ' H' s' → ∀ b ∈ fp, ∀ o, s7.heap.get? b = some o → s'.heap.get? b = some o ∧ H' b = none := fun {σ' s' H'} I' b hb o e =>
        let z := I'.pin (b, o) (List.mem_append_right _ (List.mem_append_right _ (mem_pinsAt hb e)))
        ⟨z.1, z.2.1⟩
      have none' : ∀ {σ' : L2.St} {s' : Shared} {H' : Hp}, Inv (X.blk s3 H3 scope (compEnvC scope cl s3.heap.objs.size X.env) fp) ([] ++ pinsAt fp s7.heap) σ' H' s' → ∀ b ∈ fp, H' b = none := fun {σ' s' H'} I' b hb => by
        obtain ⟨o, e, _⟩ := T.obj _ _ st7 b hb
        exact (pinned I' b hb o e).2
      have fin : ∀ {s' : Shared} {H' : Hp}, Inv (X.blk s3 H3 scope (compEnvC scope cl s3.heap.objs.size X.env) fp) ([] ++ pinsAt fp s7.heap) σ8 H' s' → Nx H' →
          ∃ m, m < n ∧ ∃ i H', Inv (X.blk s3 H3 scope (compEnvC scope cl s3.heap.objs.size X.env) fp) [] (wipe σ (own.map (·.2))) H' s' ∧ tn i s'.heap ∧ (∀ b ∈ fp, H' b = none) ∧ W i m H' := fun {s' H'} I' nx => by
        obtain ⟨m', hm, w'⟩ := hNx H' nx
        have len8 : (wipe σ (own.map (·.2))).length = σ8.length := (congrArg List.length hw8).symm.trans (wipe_length _ _)
        exact ⟨m', hm, i + 1, H', (I'.unpinned (pins := [])).weak len8 (fun j v e => (wipe_some (hw8 ▸ e)).1), T.keep _ _ _ st7 fun b hb o e => (pinned I' b hb o e).1, none' I', w'⟩
      cases b with
      | false => exact fin I9 q9
      | true =>
        refine thnF (he pins σ s3 H3 s3.heap.objs.size cl fp I3 back _ s9 σ8 H9 _ I9 (none' I9) ?_ q9) fun z s10 ⟨yv, H10, I10, r10, acc, hD10, hz10, nx⟩ => ?_
        · exact hw8
        · exact app_ok (X := X.blk s3 H3 scope (compEnvC scope cl s3.heap.objs.size X.env) fp) I10 hD10 hz10 r10 fun s11 I11 => fin I11 nx
  have start := codeAny_compStart_list loop (T.self X.A 0 _ _ _ st4 loop)
  rw [hcl, hs4] at start
  rw [hs3] at start
  exact start
end
end Kz
end
section
set_option Elab.async false
set_option linter.all false
set_option maxRecDepth 100000
set_option maxHeartbeats 4000000
/-! what the walks share: heaps, sequences, values of any kind, comprehensions, defs by name -/
namespace Kz
open PySem PySem.Spec PyProof.Rows L2
/-! ### heaps -/
theorem _root_.L2.Same.new {H : Hp} {p : Addr} {o : HO} (h : H p = none) : Same H (upd H p o) := fun b u e => by
  rw [upd_ne (ne_of_none e h)]
  exact e
theorem _root_.L2.Same.put {H H' : Hp} {p : Addr} {o : HO} (s : Same H H') (h : H p = none) : Same H (upd H' p o) := fun b u e => by
  rw [upd_ne (ne_of_none e h)]
  exact s b u e
theorem _root_.L2.Same.seqT {K : PySem.W.Frag} {H H' : Hp} {a : Addr} {xs : List V} (e : Same H H') (h : SqT K H a xs) : SqT K H' a xs := by
  rcases h with (h | ⟨o, h⟩) | h
  · exact .inl (.inl (e _ _ h))
  · exact .inl (.inr ⟨o, e _ _ h⟩)
  · exact .inr h
/-- a list or a tuple -/
def SqX (K : PySem.W.Frag) (H : Hp) (a : Addr) (xs : List V) : Prop := SqL K H a xs ∨ SqT K H a xs
theorem _root_.L2.Same.seqX {K : PySem.W.Frag} {H H' : Hp} {a : Addr} {xs : List V} (e : Same H H') (h : SqX K H a xs) : SqX K H' a xs := h.elim (fun h => .inl (e.seq h)) fun h => .inr (e.seqT h)
/-! ### values of any kind -/
inductive PD where
  | int (i : Int) | oth | dic | seq (xs : List PD)
mutual
inductive PDR (K : PySem.W.Frag) (H : Hp) : V → PD → Prop
  | int (i : Int) : PDR K H (.int i) (.int i)
  | bl (b : Bool) : PDR K H (.bl b) .oth
  | non : PDR K H .non .oth
  | str (x : Str) : PDR K H (.str x) .oth
  | dic {a : Addr} {kvs : List (Key × V)} (h : H a = some (.dK kvs)) : PDR K H (.ref a) .dic
  | seq {a : Addr} {vs : List V} {xs : List PD} (h : SqX K H a vs) (r : PDRs K H vs xs) : PDR K H (.ref a) (.seq xs)
inductive PDRs (K : PySem.W.Frag) (H : Hp) : List V → List PD → Prop
  | nil : PDRs K H [] []
  | cons {v : V} {d : PD} {vs : List V} {ds : List PD} (h : PDR K H v d) (t : PDRs K H vs ds) : PDRs K H (v :: vs) (d :: ds)
end
mutual
theorem PDR.mono {K : PySem.W.Frag} {H H' : Hp} (e : Same H H') : ∀ {v : V} {d : PD}, PDR K H v d → PDR K H' v d
  | _, _, .int i => .int i
  | _, _, .bl b => .bl b
  | _, _, .non => .non
  | _, _, .str x => .str x
  | _, _, .dic h => .dic (e _ _ h)
  | _, _, .seq h r => .seq (e.seqX h) (PDRs.mono e r)
theorem PDRs.mono {K : PySem.W.Frag} {H H' : Hp} (e : Same H H') : ∀ {vs : List V} {ds : List PD}, PDRs K H vs ds → PDRs K H' vs ds
  | _, _, .nil => .nil
  | _, _, .cons h t => .cons (PDR.mono e h) (PDRs.mono e t)
end
theorem PDRs.len {K : PySem.W.Frag} {H : Hp} : ∀ {vs : List V} {ds : List PD}, PDRs K H vs ds → vs.length = ds.length
  | _, _, .nil => rfl
  | _, _, .cons _ t => congrArg (· + 1) t.len
theorem PDRs.at_ {K : PySem.W.Frag} {H : Hp} : ∀ {vs : List V} {ds : List PD} {i : Nat} {v : V}, PDRs K H vs ds → vs[i]? = some v → ∃ d, ds[i]? = some d ∧ PDR K H v d
  | _, _, _, _, .nil, h => by simp at h
  | _, _, 0, _, .cons (d := d) h t, e => by
    simp at e
    subst e
    exact ⟨d, by simp, h⟩
  | _, _, i + 1, v, .cons h t, e => by
    obtain ⟨d, h1, h2⟩ := PDRs.at_ (i := i) (v := v) t (by simpa using e)
    exact ⟨d, by simpa using h1, h2⟩
def isNumD : PD → Bool
  | .int _ => true
  | _ => false
def isSeqD : PD → Bool
  | .seq _ => true
  | _ => false
theorem kt_list_of {K : PySem.W.Frag} {H : Hp} {a : Addr} {xs : List V} (h : SqL K H a xs) : TyX K H (.ref a) (.type "list") := by
  rcases h with (h | ⟨o, h⟩) | ⟨o, its, n, h1, h2, _⟩
  · exact .base (.lst h)
  · exact .base (.frz h)
  · exact .kList h1 h2
theorem kt_tup_of {K : PySem.W.Frag} {H : Hp} {a : Addr} {xs : List V} (h : SqT K H a xs) : TyX K H (.ref a) (.type "tuple") := by
  rcases h with (h | ⟨o, h⟩) | ⟨o, its, n, h1, h2, _⟩
  · exact .base (.tup h)
  · exact .fTuple h
  · exact .kTuple h1 h2
/-- what isinstance tells of such a value -/
theorem PDR.tells {K : PySem.W.Frag} {H : Hp} {v : V} {d : PD} (h : PDR K H v d) : ∃ t b1 b2, TyX K H v t ∧ PySem.W.kitOne K t (.type "int") = some b1 ∧ PySem.W.kitOne K t (.type "bool") = some b2 ∧ (b1 && !b2) = isNumD d ∧
    PySem.W.kitAny K t [.type "list", .type "tuple"] = some (isSeqD d) := by
  have two : ∀ {s : String} {b c : Bool}, kitB s "list" = some b → kitB s "tuple" = some c → PySem.W.kitAny K (.type s) [.type "list", .type "tuple"] = some (b || c) := fun {s b c} h1 h2 =>
    kitAny_cons (kit_ty h1) (fun hb => by
      rw [hb]
      exact kitAny_cons (kit_ty h2) (fun hc => by rw [hc]; exact kitAny_nil) fun hc => by rw [hc]; rfl) fun hb => by rw [hb]; rfl
  cases h with
  | int i => exact ⟨_, true, false, .base (.int i), kit_ty (by decide +kernel), kit_ty (by decide +kernel), rfl, two (b := false) (c := false) (by decide +kernel) (by decide +kernel)⟩
  | bl b => exact ⟨_, true, true, .base (.bl b), kit_ty (by decide +kernel), kit_ty (by decide +kernel), rfl, two (b := false) (c := false) (by decide +kernel) (by decide +kernel)⟩
  | non => exact ⟨_, false, false, .base .non, kit_ty (by decide +kernel), kit_ty (by decide +kernel), rfl, two (b := false) (c := false) (by decide +kernel) (by decide +kernel)⟩
  | str x => exact ⟨_, false, false, .base (.str x), kit_ty (by decide +kernel), kit_ty (by decide +kernel), rfl, two (b := false) (c := false) (by decide +kernel) (by decide +kernel)⟩
  | dic h => exact ⟨_, false, false, .base (.dK h), kit_ty (by decide +kernel), kit_ty (by decide +kernel), rfl, two (b := false) (c := false) (by decide +kernel) (by decide +kernel)⟩
  | seq h r =>
    rcases h with h | h
    · exact ⟨_, false, false, kt_list_of h, kit_ty (by decide +kernel), kit_ty (by decide +kernel), rfl, two (b := true) (c := false) (by decide +kernel) (by decide +kernel)⟩
    · exact ⟨_, false, false, kt_tup_of h, kit_ty (by decide +kernel), kit_ty (by decide +kernel), rfl, two (b := false) (c := true) (by decide +kernel) (by decide +kernel)⟩
/-! ### rules that lack: walking a list or a tuple, xs[i] op= e, a < b < c < d -/
section
variable {X : Cx}
def iSeq (K : PySem.W.Frag) (tl : TE) : TI := fun σ H R => tl σ H fun x H1 => ∃ a, x = .ref a ∧ (((∃ xs, SqL K H1 a xs) ∧ R (Itl K a) H1) ∨ ((∃ xs, SqT K H1 a xs) ∧ R (Itt K a) H1))
theorem pi_seq {tg l : Expr} {tl : TE} (hl : PE X l tl) : PI X tg l (iSeq X.K tl) := by
  refine ⟨fun pins s σ H R I h => thn (hl.run pins s σ H _ I h) fun v s1 ⟨x, H1, I1, r1, a, ex, q⟩ => ?_⟩
  subst ex
  cases r1
  have fp : ∀ (o : Obj), ∀ b ∈ [s1.heap.objs.size], FpOk X pins H1 b := fun o b hb => by
    rw [List.mem_singleton.mp hb]
    exact I1.fpOk (Nat.le_refl _) (I1.hok.fresh (Nat.le_refl _))
  rcases q with ⟨⟨xs, hx⟩, q⟩ | ⟨⟨xs, hx⟩, q⟩
  · obtain ⟨its, rv, p, hz⟩ := I1.list hx
    exact wpAny_pyIter_list p.isList ⟨s1.heap.objs.size, [s1.heap.objs.size], _, _, H1, rfl, I1.kept (t' := s1.toks) fun b o e => Heap.get?_push_of_some _ e, turn_list a _, ⟨_, Heap.get?_push_size _ rfl, rfl, rfl⟩, fp default, q⟩
  · obtain ⟨its, rv, p, hz⟩ := I1.tuple hx
    exact wpAny_pyIter_tuple (show s1.heap.IsTuple a its.toArray from p) ⟨s1.heap.objs.size, [s1.heap.objs.size], _, _, H1, rfl, I1.kept (t' := s1.toks) fun b o e => Heap.get?_push_of_some _ e, turn_tuple a _, ⟨_, Heap.get?_push_size _ rfl, rfl, rfl⟩, fp default, q⟩
def ixSeq (K : PySem.W.Frag) : R2 := fun x y H Q => ∃ p xs i v, x = .ref p ∧ y = .int i ∧ SqX K H p xs ∧ atI xs i = some v ∧ Q v H
theorem ix_seqX : IxR X (ixSeq X.K) := by
  intro value slice pins s σ H x y v u Q I rx ry h hp
  obtain ⟨p, xs, i, z, e1, e2, hs, ha, q⟩ := h
  rcases hs with hs | hs
  · exact ix_list value slice pins s σ H x y v u Q I rx ry ⟨p, xs, i, z, e1, e2, hs, ha, q⟩ hp
  · exact ix_tup value slice pins s σ H x y v u Q I rx ry ⟨p, xs, i, z, e1, e2, hs, ha, q⟩ hp
/-- an item at a place from 0 on -/
def rGetL (K : PySem.W.Frag) : R2 := fun x y H Q => ∃ p xs, ∃ j : Nat, ∃ v, x = .ref p ∧ y = .int j ∧ SqL K H p xs ∧ xs[j]? = some v ∧ Q v H
theorem get_list : PGet X (rGetL X.K) := by
  intro pins s σ H o i ov iv Q I ro ri h
  obtain ⟨p, xs, j, z, rfl, rfl, hq, he, q⟩ := h
  cases ro
  obtain ⟨t, rfl⟩ := ri
  obtain ⟨its, r, pl, hz⟩ := I.list hq
  obtain ⟨w, ew, rw'⟩ := r.get he
  have lt := (List.getElem?_eq_some_iff.mp he).1
  have hn := line63
  exact wpAny_getItem_list pl.isList (by omega) (by omega) (by simpa using ew) ⟨z, H, I, rw', q⟩
def tChain3 (r r' r2 : R2) (ta tb tc td : TE) : TE := fun σ H Q => ta σ H fun x H1 => tb σ H1 fun y H2 => r x y H2 fun z H3 => ∃ k, z = .bl k ∧
  (if k = true then tc σ H3 fun w H4 => r' y w H4 fun z2 H5 => ∃ k2, z2 = .bl k2 ∧ (if k2 = true then td σ H5 fun w2 H6 => r2 w w2 H6 Q else Q (.bl false) H5) else Q (.bl false) H3)
theorem pe_chain3 {op op' op2 : CmpOp} {r r' r2 : R2} {a b c d : Expr} {ta tb tc td : TE} {pos : Pos} (ho : OpR X (compareOp op) r) (ho' : OpR X (compareOp op') r') (ho2 : OpR X (compareOp op2) r2) (ha : PE X a ta) (hb : PE X b tb) (hc : PE X c tc) (hd : PE X d td)
    (hm : lastMarks [op, op', op2] [b, c, d] = false := by with_unfolding_all rfl) : PE X (.Compare a [op, op', op2] [b, c, d] pos) (tChain3 r r' r2 ta tb tc td) := by
  refine ⟨fun pins s σ H Q I h => ?_⟩
  refine Compare_chain (thn (ha.run pins s σ H _ I h) fun v s1 ⟨x, H1, I1, r1, q1⟩ => chain_link (thn (hb.run pins s1 σ H1 _ I1 q1) fun u s2 ⟨y, H2, I2, r2, q2⟩ =>
    thn (ho pins s2 σ H2 x y v u _ I2 r1 r2 q2) fun d s3 ⟨z, H3, I3, r3, k, e, q3⟩ => ?_)) hm
  subst e
  cases r3
  refine wpAny_truthy_bool ?_
  cases k with
  | false => exact ite_ff ⟨.bl false, H3, I3, rfl, q3⟩
  | true =>
    refine ite_tt (chain_link (thn (hc.run pins s3 σ H3 _ I3 q3) fun w4 s4 ⟨z4, H4, I4, r4, q4⟩ => thn (ho' pins s4 σ H4 y z4 u w4 _ I4 r2 r4 q4) fun d5 s5 ⟨z5, H5, I5, r5, k2, e2, q5⟩ => ?_))
    subst e2
    cases r5
    refine wpAny_truthy_bool ?_
    cases k2 with
    | false => exact ite_ff ⟨.bl false, H5, I5, rfl, q5⟩
    | true => exact ite_tt (chain_last (thn (hd.run pins s5 σ H5 _ I5 q5) fun w6 s6 ⟨z6, H6, I6, r6, q6⟩ => ho2 pins s6 σ H6 z4 z6 w4 w6 Q I6 r4 r6 q6))
/-- a def that may raise, called where it does not -/
theorem passN {P : Program} {w : World} : Passes (L2.CX P w) X E0 := fun _ _ _ _ _ _ _ c => by
  obtain ⟨_, _, _, _, _, _, _, _, _, _, _, _, z⟩ := c
  exact z.elim
end
/-! ### built-in names -/
theorem bo_isinstance : bootBuiltins "isinstance" = some (.builtin "isinstance") := by decide +kernel
theorem bo_len : bootBuiltins "len" = some (.builtin "len") := by decide +kernel
theorem bo_all : bootBuiltins "all" = some (.builtin "all") := by decide +kernel
theorem bo_any : bootBuiltins "any" = some (.builtin "any") := by decide +kernel
theorem bo_range : bootBuiltins "range" = some (.type "range") := by decide +kernel
theorem bo_set : bootBuiltins "set" = some (.type "set") := by decide +kernel
theorem bo_sorted : bootBuiltins "sorted" = some (.builtin "sorted") := by decide +kernel
theorem bo_dict : bootBuiltins "dict" = some (.type "dict") := by decide +kernel
theorem bo_list : bootBuiltins "list" = some (.type "list") := by decide +kernel
theorem bo_tuple : bootBuiltins "tuple" = some (.type "tuple") := by decide +kernel
theorem bo_int : bootBuiltins "int" = some (.type "int") := by decide +kernel
theorem bo_abs : bootBuiltins "abs" = some (.builtin "abs") := by decide +kernel
theorem bo_min : bootBuiltins "min" = some (.builtin "min") := by decide +kernel
theorem bo_max : bootBuiltins "max" = some (.builtin "max") := by decide +kernel
theorem bo_sum : bootBuiltins "sum" = some (.builtin "sum") := by decide +kernel
theorem bo_enumerate : bootBuiltins "enumerate" = some (.type "enumerate") := by decide +kernel
theorem bo_zip : bootBuiltins "zip" = some (.type "zip") := by decide +kernel
theorem bo_bool : bootBuiltins "bool" = some (.type "bool") := by decide +kernel
/-- what the module's names hold -/
structure Txt (K : PySem.W.Frag) (mg : Str → Option Value) : Prop where
  isinstance_ : mg "isinstance" = none
  len_ : mg "len" = none
  all_ : mg "all" = none
  any_ : mg "any" = none
  range_ : mg "range" = none
  set_ : mg "set" = none
  sorted_ : mg "sorted" = none
  dict_ : mg "dict" = none
  list_ : mg "list" = none
  tuple_ : mg "tuple" = none
  int_ : mg "int" = none
  abs_ : mg "abs" = none
  min_ : mg "min" = none
  max_ : mg "max" = none
  sum_ : mg "sum" = none
  enumerate_ : mg "enumerate" = none
  zip_ : mg "zip" = none
  bool_ : mg "bool" = none
  MOST_LETTERS : ∃ t, mg "MOST_LETTERS" = some (.int 9 t)
  MOST_WORDS : ∃ t, mg "MOST_WORDS" = some (.int 1000 t)
  g_PRIMES : mg "PRIMES" = some (.ref (He.ga K "PRIMES"))
  primes : ∀ H : Hp, SqT K H (He.ga K "PRIMES") ([2, 3, 5, 7, 11, 13, 17, 19, 23, 29, 31, 37, 41, 43, 47, 53, 59, 61, 67, 71, 73, 79, 83, 89, 97].map V.int)
/-! ### defs by their names -/
def fdOf (K : PySem.W.Frag) (f : Addr) : FuncData := match K.lookup f with
  | some ⟨_, _, .func fd, _⟩ => fd
  | _ => PySem.W.fnOf "" "" (defArgs sl_caught) [] (defScope sl_caught) .none .none .none .none none .none .none
/-- the def x of the top, as it stands -/
structure DefAt (K : PySem.W.Frag) (mg : Str → Option Value) (x : Str) (st : Stmt) : Prop where
  F : ∃ fd, FunD K x x (defArgs st) (defBody st) (defScope st) [] [] (He.ga K x) fd
  g : mg x = some (.ref (He.ga K x))
/-- .. its promise -/
structure FnS (P : Program) (w : World) (K : PySem.W.Frag) (mg : Str → Option Value) (base : Heap) (CX : CXT) (k : Nat) (x : Str) (ps : List Str) (sp : Sp) : Prop where
  ok : FnOk P w K mg base CX k (He.ga K x) (fdOf K (He.ga K x)) ps sp
  g : mg x = some (.ref (He.ga K x))
  kp : PySem.W.keepIn K (.ref (He.ga K x)) = true
  b : Binds K (fdOf K (He.ga K x)) ps []
section
variable {P : Program} {w : World} {K : PySem.W.Frag} {mg : Str → Option Value} {base : Heap}
theorem mkFn {CX : CXT} {N ps : List Str} {k : Nat} {sp : Sp} {x : Str} {st : Stmt} (D : DefAt K mg x st) (S : FnScope N ps (defScope st))
    (hb : ∀ (kV doc pm : Value) (an : Option Addr) (cdv ct : Value) (us : List Value), us.length = ps.length → bindArgs (PySem.W.fnOf x x (defArgs st) (defBody st) (defScope st) .none kV doc pm an cdv ct) ⟨us, []⟩ = pure (ps.zip us))
    (len : ∀ vs H Q E, sp vs H Q E → vs.length = ps.length)
    (body : ∀ (cdv : Value) (A : Around) (outer : List Env) (s : Shared) (H : Hp) (vs : List V) (Q : VK) (E : XK), Room k (A.deeper (envOfC x (defScope st) s.heap.objs.size (He.ga K x) cdv)) → sp vs H Q E →
      ∃ t, PSs (cxOf CX P w K mg base N x (defScope st) (He.ga K x) cdv A outer s H E) (defBody st) t ∧ t { nx := fun _ H' => Q .non H', rt := Q } (start N vs) H) : FnS P w K mg base CX (k + 1) x ps sp := by
  obtain ⟨fd, F⟩ := D.F
  have e : fdOf K (He.ga K x) = fd := by
    obtain ⟨oc, od, dV, kV, doc, pm, an, cdv, ct, osl, h1, h2, _⟩ := F.ex
    unfold fdOf
    rw [h2]
  refine ⟨?_, D.g, F.kp, ?_⟩
  · rw [e]
    exact F.ok S len body
  · rw [e]
    exact F.bindsN hb
end
end Kz
end
section
set_option Elab.async false
set_option linter.all false
set_option maxRecDepth 100000
set_option maxHeartbeats 4000000
/-! comprehensions told by what each element is -/
namespace Kz
open PySem PySem.Spec PyProof.Rows L2
theorem paired_app {α β : Type} {F : α → β → Prop} : ∀ {l : List α} {m : List β} {a : α} {b : β}, Paired F l m → F a b → Paired F (l ++ [a]) (m ++ [b])
  | _, _, _, _, .nil, h => .cons h .nil
  | _, _, _, _, .cons r t, h => .cons r (paired_app t h)
theorem paired_imp {α β : Type} {F G : α → β → Prop} : ∀ {l : List α} {m : List β}, Paired F l m → (∀ a b, F a b → G a b) → Paired G l m
  | _, _, .nil, _ => .nil
  | _, _, .cons r t, f => .cons (f _ _ r) (paired_imp t f)
theorem paired_len {α β : Type} {F : α → β → Prop} : ∀ {l : List α} {m : List β}, Paired F l m → l.length = m.length
  | _, _, .nil => rfl
  | _, _, .cons _ t => congrArg (· + 1) (paired_len t)
theorem paired_map {α β : Type} {f : α → β} : ∀ {l : List α} {m : List β}, Paired (fun a b => b = f a) l m → m = l.map f
  | _, _, .nil => rfl
  | _, _, .cons r t => by rw [r, paired_map t]; rfl
theorem paired_of_map {α β γ : Type} {F : γ → β → Prop} {f : α → γ} : ∀ {l : List α} {m : List β}, Paired F (l.map f) m → Paired (fun a b => F (f a) b) l m
  | [], _, .nil => .nil
  | _ :: _, _, .cons r t => .cons r (paired_of_map t)
theorem paired_at {α β : Type} {F : α → β → Prop} : ∀ {l : List α} {m : List β} {i : Nat} {b : β}, Paired F l m → m[i]? = some b → ∃ a, l[i]? = some a ∧ F a b
  | _, _, _, _, .nil, h => by simp at h
  | _, _, 0, _, .cons (a := a) r t, e => by
    simp at e
    subst e
    exact ⟨a, by simp, r⟩
  | _, _, i + 1, b, .cons r t, e => by
    obtain ⟨a, h1, h2⟩ := paired_at (i := i) (b := b) t (by simpa using e)
    exact ⟨a, by simpa using h1, h2⟩
theorem paired_at2 {α β : Type} {F : α → β → Prop} : ∀ {l : List α} {m : List β} {i : Nat} {a : α}, Paired F l m → l[i]? = some a → ∃ b, m[i]? = some b ∧ F a b
  | _, _, _, _, .nil, h => by simp at h
  | _, _, 0, _, .cons (b := b) r t, e => by
    simp at e
    subst e
    exact ⟨b, by simp, r⟩
  | _, _, i + 1, b, .cons r t, e => by
    obtain ⟨a, h1, h2⟩ := paired_at2 (i := i) (a := b) t (by simpa using e)
    exact ⟨a, by simpa using h1, h2⟩
/-- all but D stands -/
def But (D : Addr) (H H' : Hp) : Prop := ∀ b o, b ≠ D → H b = some o → H' b = some o
theorem Same.but {H H' : Hp} (D : Addr) (s : Same H H') : But D H H' := fun b o _ e => s b o e
theorem but_upd (D : Addr) (H : Hp) (o : HO) : But D H (upd H D o) := fun b u nb e => by
  rw [upd_ne nb]
  exact e
/-- what a turn keeps: the items so far -/
def LcP (Elt : Addr → V → V → Hp → Prop) (keep : V → Bool) (H0 : Hp) (D : Addr) (xs : List V) (i : Nat) (H : Hp) : Prop :=
  Same H0 H ∧ ∃ ys, H D = some (.lst ys) ∧ Paired (fun x y => Elt D x y H) ((xs.take i).filter keep) ys
section
variable {Elt : Addr → V → V → Hp → Prop} {keep : V → Bool} {H0 : Hp} {D : Addr} {xs : List V}
theorem LcP.start (hD : H0 D = none) : LcP Elt keep H0 D xs 0 (upd H0 D (.lst [])) := ⟨Same.new hD, [], upd_same, by simp; exact .nil⟩
theorem LcP.skip (stab : ∀ D x y H1 H2, But D H1 H2 → Elt D x y H1 → Elt D x y H2) {i : Nat} {H H' : Hp} {x : V} (p : LcP Elt keep H0 D xs i H) (hx : xs[i]? = some x) (k : keep x = false) (s : Same H H') : LcP Elt keep H0 D xs (i + 1) H' := by
  obtain ⟨s0, ys, e, r⟩ := p
  refine ⟨s0.trans s, ys, s _ _ e, ?_⟩
  rw [List.take_add_one, hx, List.filter_append]
  have e2 : (some x).toList.filter keep = [] := by simp [k]
  rw [e2, List.append_nil]
  exact paired_imp r fun a b z => stab _ _ _ _ _ (Same.but D s) z
theorem LcP.more (stab : ∀ D x y H1 H2, But D H1 H2 → Elt D x y H1 → Elt D x y H2) (hD : H0 D = none) (hz : xs.length < sizeLine) {i : Nat} {H H' : Hp} {x y : V} (p : LcP Elt keep H0 D xs i H) (hx : xs[i]? = some x) (k : keep x = true) (s : Same H H') (el : Elt D x y H') :
    ∃ acc, H' D = some (.lst acc) ∧ acc.length < sizeLine ∧ LcP Elt keep H0 D xs (i + 1) (upd H' D (.lst (acc ++ [y]))) := by
  obtain ⟨s0, ys, e, r⟩ := p
  have len : ys.length ≤ xs.length := by
    rw [← paired_len r]
    exact Nat.le_trans (List.length_filter_le _ _) (by rw [List.length_take]; exact Nat.min_le_right _ _)
  refine ⟨ys, s _ _ e, Nat.lt_of_le_of_lt len hz, (s0.trans s).put hD, _, upd_same, ?_⟩
  rw [List.take_add_one, hx, List.filter_append]
  have e2 : (some x).toList.filter keep = [x] := by simp [k]
  rw [e2]
  have b : But D H (upd H' D (.lst (ys ++ [y]))) := fun b o nb q => by
    rw [upd_ne nb]
    exact s _ _ q
  exact paired_app (paired_imp r fun a c z => stab _ _ _ _ _ b z) (stab _ _ _ _ _ (but_upd D H' _) el)
end
/-- over a list or a tuple at a -/
theorem lc_seqF {K : PySem.W.Frag} {a : Addr} {xs : List V} {tl : TE} {g : TG} {tt : TT} {te : TE} {vs : List Nat} {σ : L2.St} {H : Hp} {Q : VK} (keep : V → Bool) (Elt : Addr → V → V → Hp → Prop) (stab : ∀ D x y H1 H2, But D H1 H2 → Elt D x y H1 → Elt D x y H2)
    (htl : ∀ R : VK, R (.ref a) H → tl σ H R) (hx : SqX K H a xs) (hz : xs.length < sizeLine)
    (step : ∀ D x H' acc (C : VK) (N : Hp → Prop), x ∈ xs → Same H H' → H D = none → H' D = some (.lst acc) → (∀ y H4, keep x = true → Same H' H4 → Elt D x y H4 → C y H4) → (∀ H4, keep x = false → Same H' H4 → N H4) →
      g x (wipe σ vs) H' fun σ2 H2 => wipe σ2 vs = wipe σ vs ∧ tt σ2 H2 fun b H3 => if b = true then te σ2 H3 C else N H3)
    (done : ∀ D H' ys, Same H H' → H D = none → H' D = some (.lst ys) → Paired (fun x y => Elt D x y H') (xs.filter keep) ys → Q (.ref D) H') : tLc (iSeq K tl) g tt te vs σ H Q := by
  have fin : ∀ D H', H D = none → LcP Elt keep H D xs xs.length H' → Q (.ref D) H' := fun D H' hD ⟨s, ys, e, r⟩ => done D H' ys s hD e (by rw [List.take_length] at r; exact r)
  have turn : ∀ D, H D = none → ∀ i x H', xs[i]? = some x → LcP Elt keep H D xs i H' → g x (wipe σ vs) H' fun σ2 H2 => wipe σ2 vs = wipe σ vs ∧ tt σ2 H2 fun b H3 =>
      if b = true then te σ2 H3 fun y H4 => ∃ acc, H4 D = some (.lst acc) ∧ acc.length < sizeLine ∧ LcP Elt keep H D xs (i + 1) (upd H4 D (.lst (acc ++ [y]))) else LcP Elt keep H D xs (i + 1) H3 := fun D hD i x H' e p => by
    obtain ⟨s0, ys, ey, r⟩ := id p
    exact step D x H' ys _ _ (List.mem_of_getElem? e) s0 hD ey (fun y H4 k s el => p.more stab hD hz e k s el) fun H4 k s => p.skip stab e k s
  refine htl _ ⟨a, rfl, ?_⟩
  rcases hx with hx | hx
  · exact .inl ⟨⟨xs, hx⟩, fun D hD => lc_list (K := K) (a := a) (xs := xs) (LcP Elt keep H D xs) (LcP.start hD) (fun i H' _ p => p.1.seq hx) (turn D hD) fun H' p => fin D H' hD p⟩
  · exact .inr ⟨⟨xs, hx⟩, fun D hD => lc_tup (K := K) (a := a) (xs := xs) (LcP Elt keep H D xs) (LcP.start hD) (fun i H' _ p => p.1.seqT hx) (turn D hD) fun H' p => fin D H' hD p⟩
/-- .. over a list, by the plain rule -/
theorem lc_listF {K : PySem.W.Frag} {a : Addr} {xs : List V} {tl : TE} {g : TG} {tt : TT} {te : TE} {vs : List Nat} {σ : L2.St} {H : Hp} {Q : VK} (keep : V → Bool) (Elt : Addr → V → V → Hp → Prop) (stab : ∀ D x y H1 H2, But D H1 H2 → Elt D x y H1 → Elt D x y H2)
    (htl : ∀ R : VK, R (.ref a) H → tl σ H R) (hx : SqL K H a xs) (hz : xs.length < sizeLine)
    (step : ∀ D x H' acc (C : VK) (N : Hp → Prop), x ∈ xs → Same H H' → H D = none → H' D = some (.lst acc) → (∀ y H4, keep x = true → Same H' H4 → Elt D x y H4 → C y H4) → (∀ H4, keep x = false → Same H' H4 → N H4) →
      g x (wipe σ vs) H' fun σ2 H2 => wipe σ2 vs = wipe σ vs ∧ tt σ2 H2 fun b H3 => if b = true then te σ2 H3 C else N H3)
    (done : ∀ D H' ys, Same H H' → H D = none → H' D = some (.lst ys) → Paired (fun x y => Elt D x y H') (xs.filter keep) ys → Q (.ref D) H') : tLc (iList K tl) g tt te vs σ H Q := by
  refine htl _ ⟨a, rfl, ⟨xs, hx⟩, fun D hD => lc_list (K := K) (a := a) (xs := xs) (LcP Elt keep H D xs) (LcP.start hD) (fun i H' _ p => p.1.seq hx) (fun i x H' e p => ?_) fun H' ⟨s, ys, e, r⟩ => done D H' ys s hD e (by rw [List.take_length] at r; exact r)⟩
  obtain ⟨s0, ys, ey, r⟩ := id p
  exact step D x H' ys _ _ (List.mem_of_getElem? e) s0 hD ey (fun y H4 k s el => p.more stab hD hz e k s el) fun H4 k s => p.skip stab e k s
/-- .. over a range -/
theorem lc_rangeF {lo : Int} {n : Nat} {g : TG} {tt : TT} {te : TE} {vs : List Nat} {σ : L2.St} {H : Hp} {Q : VK} (keep : V → Bool) (Elt : Addr → V → V → Hp → Prop) (stab : ∀ D x y H1 H2, But D H1 H2 → Elt D x y H1 → Elt D x y H2) (hz : n < sizeLine)
    (step : ∀ D (i : Nat) H' acc (C : VK) (N : Hp → Prop), i < n → Same H H' → H D = none → H' D = some (.lst acc) → (∀ y H4, keep (.int (lo + i)) = true → Same H' H4 → Elt D (.int (lo + i)) y H4 → C y H4) → (∀ H4, keep (.int (lo + i)) = false → Same H' H4 → N H4) →
      g (.int (lo + i)) (wipe σ vs) H' fun σ2 H2 => wipe σ2 vs = wipe σ vs ∧ tt σ2 H2 fun b H3 => if b = true then te σ2 H3 C else N H3)
    (done : ∀ D H' ys, Same H H' → H D = none → H' D = some (.lst ys) → Paired (fun x y => Elt D x y H') (((List.range n).map fun (i : Nat) => V.int (lo + i)).filter keep) ys → Q (.ref D) H') :
    ∀ D, H D = none → ∃ W : Nat → Nat → Hp → Prop, (∃ m, W 0 m (upd H D (.lst []))) ∧ ∀ i m H, W i m H →
      ((Itr lo n).stop i H ∧ Q (.ref D) H) ∨ ((Itr lo n).go i H ∧ ∃ Nx : Hp → Prop, (∀ H', Nx H' → ∃ m', m' < m ∧ W (i + 1) m' H') ∧ ∀ x H', (Itr lo n).yld i H x H' → g x (wipe σ vs) H' fun σ2 H2 => wipe σ2 vs = wipe σ vs ∧ tt σ2 H2 fun b H3 =>
        if b = true then te σ2 H3 fun y H4 => ∃ acc, H4 D = some (.lst acc) ∧ acc.length < sizeLine ∧ Nx (upd H4 D (.lst (acc ++ [y]))) else Nx H3) := by
  intro D hD
  have at_ : ∀ i, i < n → ((List.range n).map fun (i : Nat) => V.int (lo + i))[i]? = some (V.int (lo + i)) := fun i hi => by
    rw [List.getElem?_map, List.getElem?_range hi]
    rfl
  have len : ((List.range n).map fun (i : Nat) => V.int (lo + i)).length = n := by simp
  refine lc_range (lo := lo) (n := n) (LcP Elt keep H D ((List.range n).map fun (i : Nat) => V.int (lo + i))) (LcP.start hD) (fun i H' hi p => ?_) fun H' ⟨s, ys, e, r⟩ => done D H' ys s hD e (by
    rw [List.take_of_length_le (Nat.le_of_eq len)] at r
    exact r)
  obtain ⟨s0, ys, ey, r⟩ := id p
  exact step D i H' ys _ _ hi s0 hD ey (fun y H4 k s el => p.more stab hD (by rw [len]; exact hz) (at_ i hi) k s el) fun H4 k s => p.skip stab (at_ i hi) k s
/-- elements that are values of their own -/
theorem stabV (f : V → V) : ∀ (D : Addr) (x y : V) (H1 H2 : Hp), But D H1 H2 → y = f x → y = f x := fun _ _ _ _ _ _ e => e
end Kz
end
section
set_option Elab.async false
set_option linter.all false
set_option maxRecDepth 100000
set_option maxHeartbeats 4000000
/-! enumerate(t) of a tuple -/
namespace Kz
open PySem PySem.Spec PyProof.Rows L2
open AutoSeq1 (wpAny_loadPart')
theorem meets_enumerate_tup (l : Addr) (items : Array Value) (n : Nat) (dct : Option Addr) (sl : Array (Option Value)) :
    Meets (Builtin.«enumerate.__new__» ⟨[.type "enumerate", .ref l], []⟩) (fun _ R s => s.heap.get? l = some { cls := .type "tuple", dict := dct, data := .seq items n, slots := sl } ∧
      R (.ok (.ret (.ref (s.heap.push { cls := .type "tuple_iterator", data := .fields #[.ref l, .int 0 0] }).objs.size)))
        { s with heap := (s.heap.push { cls := .type "tuple_iterator", data := .fields #[.ref l, .int 0 0] }).push { cls := .type "enumerate", data := .fields #[.none, .bool false, .ref s.heap.objs.size, rawInt 0, .none, .none] } }) :=
  .of_wp fun prog w A R s h => by
    obtain ⟨hp, g, d, tk, os⟩ := s
    obtain ⟨hl, h⟩ := h
    have hsub := sub_enumerate
    have hL : Heap.IsTuple (Shared.heap ⟨hp, g, d, tk, os⟩) l items := ⟨_, hl, rfl, n, rfl⟩
    wp_walk using wpAny_loadPart' hl
    refine wpAny_stack_any fun st => wpAny_pure ?_
    split
    · rename_i c _ _ _ _ _
      cases (c == Value.type "enumerate")
      · wp_walk using wpAny_loadPart' hl, wpAny_pyIter_tuple hL
        exact ⟨_, rfl, h⟩
      · wp_walk using wpAny_loadPart' hl, wpAny_pyIter_tuple hL
        exact ⟨_, rfl, h⟩
    · wp_walk using wpAny_loadPart' hl, wpAny_pyIter_tuple hL
      exact ⟨_, rfl, h⟩
theorem call_enumerate_tup {prog : Program} {w : World} {A : Around} {E : Value → Shared → Prop} {s : Shared} {l : Addr} {items : Array Value} {Q : Value → Shared → Prop} (hL : s.heap.IsTuple l items)
    (h : ∀ h', IsEnum h' (s.heap.objs.size + 1) s.heap.objs.size 0 .none → h'.IsTupleIter s.heap.objs.size l 0 → h'.objs.size = s.heap.objs.size + 2 →
      (∀ b o, s.heap.get? b = some o → h'.get? b = some o) → Q (.ref (s.heap.objs.size + 1)) { s with heap := h' }) :
    wpAny (model prog w) A (call (.type "enumerate") [.ref l]) Q E s := by
  obtain ⟨⟨c, dct, dt, sl⟩, hl, hc, n, hd⟩ := hL
  replace hc : c = .type "tuple" := hc
  replace hd : dt = .seq items n := hd
  subst hc hd
  refine callType_new F.called_enumerate (by decide) (F.typeCall_enumerate_1 _) (F.newCall_enumerate_1 _) (fun obj => F.args_object_init_2 obj _) F.entry_enumerate_new
    (meets_enumerate_tup l items n dct sl) ⟨hl, ?_⟩
  have hz : (s.heap.push { cls := .type "tuple_iterator", data := .fields #[.ref l, .int 0 0] }).objs.size = s.heap.objs.size + 1 := Heap.size_push ..
  show _ ∧ _
  rw [hz]
  have he : IsEnum ((s.heap.push { cls := .type "tuple_iterator", data := .fields #[.ref l, .int 0 0] }).push
      { cls := .type "enumerate", data := .fields #[.none, .bool false, .ref s.heap.objs.size, rawInt 0, .none, .none] }) (s.heap.objs.size + 1) s.heap.objs.size 0 .none := by
    have := Heap.get?_push_size (s.heap.push { cls := .type "tuple_iterator", data := .fields #[.ref l, .int 0 0] })
      (o := { cls := .type "enumerate", data := .fields #[.none, .bool false, .ref s.heap.objs.size, rawInt 0, .none, .none] }) rfl
    rw [hz] at this
    exact this
  refine ⟨⟨_, he, rfl⟩, h _ he ⟨_, Heap.get?_push_of_some _ (Heap.get?_push_size _ rfl), rfl, rfl⟩ (by rw [Heap.size_push, hz]) fun b o x => Heap.get?_push_of_some _ (Heap.get?_push_of_some _ x)⟩
def IteT (K : PySem.W.Frag) (a : Addr) : It :=
  ⟨fun i H => ∃ (xs : List V) (x : V), SqT K H a xs ∧ xs[i]? = some x, fun i H v H' => ∃ T x, v = .ref T ∧ H T = none ∧ H' = upd H T (.tup [.int (i : Nat), x]) ∧ ∀ xs, SqT K H a xs → xs[i]? = some x, fun i H => ∃ xs : List V, SqT K H a xs ∧ xs.length = i⟩
theorem turn_enumT {P : Program} {w : World} {K : PySem.W.Frag} {elts : List Expr} {kk : Nat} {tpos : Pos} (a e it : Addr) (ne : a ≠ it) :
    Turn P w K (.Tuple elts kk tpos) (IteT K a) [e, it] e (fun i h => (∃ old, IsEnum h e it ((i : Nat) : Int) old) ∧ h.IsTupleIter it a i ∧ e ≠ it ∧ e ≠ a) where
  mem := by simp
  obj := fun i h st b hb => by
    obtain ⟨⟨old, he⟩, ⟨o, ho, hc, hd⟩, _⟩ := st
    have e' : b = e ∨ b = it := by simpa using hb
    rcases e' with z | z
    · rw [z]; exact ⟨_, he, fun v q => nomatch q⟩
    · rw [z]; exact ⟨o, ho, fun v q => by rw [hd] at q; cases q⟩
  keep := fun i h h' st k => let ⟨⟨old, he⟩, hi, hne⟩ := st; ⟨⟨old, k e (by simp) _ he⟩, hi.at fun o q => k it (by simp) o q, hne⟩
  item := by
    intro X hP hw hK hc i pins s σ H E I hf st hg
    subst hP hw hK
    obtain ⟨⟨old, he⟩, hit, hne, hna⟩ := st
    obtain ⟨xs, x, hq, hx⟩ := hg
    obtain ⟨its, rv, p, hz⟩ := I.tuple hq
    obtain ⟨u, hu, ru⟩ := rv.get hx
    have hel : e < s.heap.objs.size := Heap.lt_size he
    have hil : it < s.heap.objs.size := by obtain ⟨_, q, _⟩ := hit; exact Heap.lt_size q
    have hT : s.heap.IsTuple a its.toArray := p
    refine wpAny_pyNext_enum_itemD (Draws.tuple (A := X.A.in1) (I.ok.hd hc) it a ne its.toArray) he ⟨hit, hT⟩ ?_ hne ?_ fun x' h' tk hP ho hit' hT' hsz hk => ?_
    · have := (List.getElem?_eq_some_iff.mp hu).1
      simpa using this
    · simp [hne, hna]
    obtain rfl : x' = u := by
      have hP : its.toArray[i]? = some x' := hP
      rw [List.getElem?_toArray, hu] at hP
      exact (Option.some.inj hP).symm
    refine ⟨_, rfl, wpAny_letOwnedTupleGo_enum (s := { s with heap := h', toks := tk + 1 }) ho fun h'' he' sb => ?_⟩
    have hT2 : h''.get? s.heap.objs.size = some { cls := .type "tuple", data := .seq #[.int i tk, x'] } := (sb.2 _ (Nat.ne_of_gt hel)).trans hT'
    have new : ObjOk X.prog X.w (upd H s.heap.objs.size (.tup [.int (i : Nat), x])) h'' s.heap.objs.size (.tup [.int (i : Nat), x]) :=
      ⟨by show 2 ≤ sizeLine; decide, [.int i tk, x'], .cons ⟨_, rfl⟩ (.cons ru .nil), ⟨_, hT2, rfl, _, rfl⟩⟩
    have I1 : Inv X pins σ (upd H s.heap.objs.size (.tup [.int (i : Nat), x])) { s with heap := h'', toks := tk + 1 } :=
      I.turnedNew (ch := [e, it]) (fun b ob hb q => (sb.2 b (fun z => hb (by simp [z]))).trans (hk b ob (fun z => hb (by simp [z])) (fun z => hb (by simp [z])) q)) hf (Nat.le_refl _) new
    refine ⟨.ref s.heap.objs.size, _, I1, rfl, ⟨_, x, rfl, I.hok.fresh (Nat.le_refl _), rfl, fun ys hy => by rw [I.tuple_inj hy hq]; exact hx⟩, ⟨⟨x', ?_⟩, hit'.1.at fun o q => (sb.2 it (Ne.symm hne)).trans q, hne, hna⟩, fun b hb => ?_⟩
    · have e1 : ((i + 1 : Nat) : Int) = (i : Int) + 1 := by omega
      rw [e1]; exact he'
    · have hb' : b < s.heap.objs.size := by
        have e' : b = e ∨ b = it := by simpa using hb
        rcases e' with z | z
        · rw [z]; exact hel
        · rw [z]; exact hil
      rw [upd_ne (Nat.ne_of_lt hb')]
      exact (hf b hb).1
  done := by
    intro X hP hw hK hc i pins s σ H E I hf st hg
    subst hP hw hK
    obtain ⟨⟨old, he⟩, hit, hne, hna⟩ := st
    obtain ⟨xs, hq, hx⟩ := hg
    obtain ⟨its, rv, p, hz⟩ := I.tuple hq
    obtain ⟨f0, f1, f2, f3, f4, f5⟩ := hf it (by simp)
    have hl := rv.length
    have e1 : i = its.toArray.size := by
      rw [List.size_toArray]
      omega
    subst e1
    exact wpAny_pyNext_enum_endD (Draws.tuple (A := X.A.in1) (I.ok.hd hc) it a ne its.toArray) he ⟨hit, p⟩ fun h' eb => ⟨rfl, I.turned (t' := s.toks) (fun b o hb q => eb b o hb q) f0 f1 f3 f4 f5⟩
  self := fun A i s Q E st h => let ⟨⟨_, he⟩, _⟩ := st; wpAny_pyIter_enum he h
def iEnumT (K : PySem.W.Frag) (ta : TA) : TI := fun σ H R => ta σ H fun vs H1 => ∃ a xs, vs = [.ref a] ∧ SqT K H1 a xs ∧ R (IteT K a) H1
/-- .. of a list or a tuple -/
def iEnumS (K : PySem.W.Frag) (ta : TA) : TI := fun σ H R => ta σ H fun vs H1 => ∃ a, vs = [.ref a] ∧ (((∃ xs, SqL K H1 a xs) ∧ R (Ite K a) H1) ∨ ((∃ xs, SqT K H1 a xs) ∧ R (IteT K a) H1))
theorem pi_enumS {X : Cx} {e : Expr} {ta : TA} {p pos tpos : Pos} {elts : List Expr} {kk : Nat} (hg : Gl X "enumerate") (hm : X.mg "enumerate" = none) (ha : PA X [e] ta) (hs : starEach [e] X.env = [(false, eval e X.env)] := by rfl) :
    PI X (.Tuple elts kk tpos) (.Call (.Name "enumerate" p) [e] [] pos) (iEnumS X.K ta) := by
  refine ⟨fun pins s σ H R I h => ?_⟩
  refine Call_ (ld_blt I hg hm boot_enumerate (PyProof.Rows.callWith_type1 (thn (ha.run pos pins s σ H _ I h) fun us s1 ⟨vs, H1, I1, r1, q1⟩ => ?_) hs rfl))
  obtain ⟨a, ex, q1⟩ := q1
  subst ex
  cases r1 with
  | cons r rr =>
    cases rr
    cases r
    have fp : ∀ b ∈ [s1.heap.objs.size + 1, s1.heap.objs.size], FpOk X pins H1 b := fun b hb => by
      have e' : b = s1.heap.objs.size + 1 ∨ b = s1.heap.objs.size := by simpa using hb
      have hle : s1.heap.objs.size ≤ b := by
        rcases e' with z | z
        · rw [z]; exact Nat.le_add_right _ _
        · rw [z]; exact Nat.le_refl _
      exact I1.fpOk hle (I1.hok.fresh hle)
    rcases q1 with ⟨⟨xs, hq⟩, q⟩ | ⟨⟨xs, hq⟩, q⟩
    · obtain ⟨its, rv, p', hz⟩ := I1.list hq
      refine call_enumerate_list p'.isList fun h' he hit hsz hk => wpAny_pyIter_enum he ?_
      have I2 : Inv X pins σ H1 { s1 with heap := h' } := I1.kept (t' := s1.toks) hk
      exact ⟨s1.heap.objs.size + 1, [s1.heap.objs.size + 1, s1.heap.objs.size], _, _, H1, rfl, I2, turn_enum a (s1.heap.objs.size + 1) s1.heap.objs.size, ⟨⟨.none, he⟩, hit, Nat.succ_ne_self _⟩, fp, q⟩
    · obtain ⟨its, rv, p', hz⟩ := I1.tuple hq
      have hal : a < s1.heap.objs.size := by
        obtain ⟨o, q, _⟩ := p'
        exact Heap.lt_size q
      refine call_enumerate_tup (show s1.heap.IsTuple a its.toArray from p') fun h' he hit hsz hk => wpAny_pyIter_enum he ?_
      have I2 : Inv X pins σ H1 { s1 with heap := h' } := I1.kept (t' := s1.toks) hk
      exact ⟨s1.heap.objs.size + 1, [s1.heap.objs.size + 1, s1.heap.objs.size], _, _, H1, rfl, I2, turn_enumT a (s1.heap.objs.size + 1) s1.heap.objs.size (Nat.ne_of_lt hal), ⟨⟨.none, he⟩, hit, Nat.succ_ne_self _, Nat.ne_of_gt (Nat.lt_succ_of_lt hal)⟩, fp, q⟩
end Kz
end
section
set_option Elab.async false
set_option linter.all false
set_option maxRecDepth 100000
set_option maxHeartbeats 4000000
/-! one lemma for every walk: lists, tuples, ranges, enumerate, zip, keys -/
namespace Kz
open PySem PySem.Spec PyProof.Rows L2
/-- the iterator J gives n items -/
structure Walks (J : It) (n : Nat) (itm : Nat → V → Hp → Prop) (Ok : Hp → Prop) : Prop where
  go : ∀ i H, i < n → Ok H → J.go i H
  yld : ∀ i H x H', i < n → Ok H → J.yld i H x H' → itm i x H' ∧ Same H H'
  stop : ∀ H, Ok H → J.stop n H
  stay : ∀ H H', Ok H → Same H H' → Ok H'
abbrev itL (xs : List V) : Nat → V → Hp → Prop := fun i x _ => xs[i]? = some x
theorem wk_list {K : PySem.W.Frag} {a : Addr} {xs : List V} : Walks (Itl K a) xs.length (itL xs) fun H => SqL K H a xs where
  go := fun i H hi h => ⟨xs, xs[i], h, by simp [hi]⟩
  yld := fun i H x H' hi h y => by
    obtain ⟨e, y⟩ := y
    subst e
    exact ⟨y xs h, Same.refl _⟩
  stop := fun H h => ⟨xs, h, Nat.le_refl _⟩
  stay := fun H H' h s => s.seq h
theorem wk_tup {K : PySem.W.Frag} {a : Addr} {xs : List V} : Walks (Itt K a) xs.length (itL xs) fun H => SqT K H a xs where
  go := fun i H hi h => ⟨xs, xs[i], h, by simp [hi]⟩
  yld := fun i H x H' hi h y => by
    obtain ⟨e, y⟩ := y
    subst e
    exact ⟨y xs h, Same.refl _⟩
  stop := fun H h => ⟨xs, h, Nat.le_refl _⟩
  stay := fun H H' h s => s.seqT h
theorem wk_range {lo : Int} {n : Nat} : Walks (Itr lo n) n (fun i x _ => x = .int (lo + i)) fun _ => True where
  go := fun i H hi _ => hi
  yld := fun i H x H' hi _ y => by
    obtain ⟨e, y⟩ := y
    subst e
    exact ⟨y, Same.refl _⟩
  stop := fun H _ => Nat.le_refl _
  stay := fun _ _ _ _ => True.intro
theorem wk_enum {K : PySem.W.Frag} {a : Addr} {xs : List V} : Walks (Ite K a) xs.length (fun i x H => ∃ T z, x = .ref T ∧ H T = some (.tup [.int (i : Nat), z]) ∧ xs[i]? = some z) fun H => SqL K H a xs where
  go := fun i H hi h => ⟨xs, xs[i], h, by simp [hi]⟩
  yld := fun i H x H' hi h y => by
    obtain ⟨T, z, rfl, nT, rfl, f⟩ := y
    exact ⟨⟨T, z, rfl, upd_same, f xs h⟩, Same.new nT⟩
  stop := fun H h => ⟨xs, h, Nat.le_refl _⟩
  stay := fun H H' h s => s.seq h
theorem wk_enumT {K : PySem.W.Frag} {a : Addr} {xs : List V} : Walks (IteT K a) xs.length (fun i x H => ∃ T z, x = .ref T ∧ H T = some (.tup [.int (i : Nat), z]) ∧ xs[i]? = some z) fun H => SqT K H a xs where
  go := fun i H hi h => ⟨xs, xs[i], h, by simp [hi]⟩
  yld := fun i H x H' hi h y => by
    obtain ⟨T, z, rfl, nT, rfl, f⟩ := y
    exact ⟨⟨T, z, rfl, upd_same, f xs h⟩, Same.new nT⟩
  stop := fun H h => ⟨xs, h, rfl⟩
  stay := fun H H' h s => s.seqT h
theorem wk_zip {K : PySem.W.Frag} {a b : Addr} {xs ys : List V} (e : xs.length = ys.length) : Walks (Itz K a b) xs.length (fun i v H => ∃ T x y, v = .ref T ∧ H T = some (.tup [x, y]) ∧ xs[i]? = some x ∧ ys[i]? = some y) fun H => SqL K H a xs ∧ SqL K H b ys where
  go := fun i H hi h => ⟨xs, ys, xs[i], ys[i], h.1, h.2, by simp [hi], by simp [← e, hi]⟩
  yld := fun i H v H' hi h y => by
    obtain ⟨T, x, y, rfl, nT, rfl, f1, f2⟩ := y
    exact ⟨⟨T, x, y, rfl, upd_same, f1 xs h.1, f2 ys h.2⟩, Same.new nT⟩
  stop := fun H h => ⟨xs, ys, h.1, h.2, .inl (Nat.le_refl _)⟩
  stay := fun H H' h s => ⟨s.seq h.1, s.seq h.2⟩
theorem wk_keys {d : Addr} {o : Obj} {kvs : List (Key × V)} : Walks (Itk d o kvs) kvs.length (fun i x _ => ∃ k v, kvs[i]? = some (k, v) ∧ x = kV k) fun H => H d = some (.frz o (.dK kvs)) where
  go := fun i H hi h => ⟨h, hi⟩
  yld := fun i H x H' hi h y => by
    obtain ⟨e, y⟩ := y
    subst e
    exact ⟨y, Same.refl _⟩
  stop := fun H h => ⟨h, Nat.le_refl _⟩
  stay := fun H H' h s => s _ _ h
section
variable {J : It} {n : Nat} {itm : Nat → V → Hp → Prop} {Ok : Hp → Prop}
theorem for_walk {g : TG} {tb : TS} {D : Ends} {σ : L2.St} {H : Hp} (wk : Walks J n itm Ok) (Pv : Nat → L2.St → Hp → Prop) (h0 : Pv 0 σ H) (hl : ∀ i σ H, i ≤ n → Pv i σ H → Ok H)
    (turn : ∀ i x σ H H', i < n → Pv i σ H → Same H H' → itm i x H' → g x σ H' fun σ2 H2 => tb { D with nx := Pv (i + 1), ct := Pv (i + 1), bk := D.nx } σ2 H2) (fin : ∀ σ H, Pv n σ H → D.nx σ H) :
    ∃ W : Nat → Nat → L2.St → Hp → Prop, (∃ m, W 0 m σ H) ∧ ∀ i m σ H, W i m σ H →
      (J.stop i H ∧ D.nx σ H) ∨ (J.go i H ∧ ∃ N : L2.St → Hp → Prop, (∀ σ' H', N σ' H' → ∃ m', m' < m ∧ W (i + 1) m' σ' H') ∧ ∀ x H', J.yld i H x H' → g x σ H' fun σ2 H2 => tb { D with nx := N, ct := N, bk := D.nx } σ2 H2) := by
  refine ⟨fun i m σ H => m = n - i ∧ i ≤ n ∧ Pv i σ H, ⟨n, by simp, Nat.zero_le _, h0⟩, ?_⟩
  rintro i m σ H ⟨rfl, hi, p⟩
  by_cases hlt : i < n
  · refine .inr ⟨wk.go i H hlt (hl _ _ _ hi p), Pv (i + 1), fun σ' H' p' => ⟨n - (i + 1), by omega, rfl, hlt, p'⟩, fun x H' y => ?_⟩
    obtain ⟨it, s⟩ := wk.yld i H x H' hlt (hl _ _ _ hi p) y
    exact turn i x σ H H' hlt p s it
  · have e : i = n := by omega
    subst e
    exact .inl ⟨wk.stop _ (hl _ _ _ hi p), fin _ _ p⟩
theorem lc_walk {g : TG} {tt : TT} {te : TE} {vs : List Nat} {σ : L2.St} {H : Hp} {Qd : Addr → Hp → Prop} (wk : Walks J n itm Ok) (keep : Nat → Bool) (Elt : Addr → Nat → V → Hp → Prop) (stab : ∀ D i y H1 H2, But D H1 H2 → Elt D i y H1 → Elt D i y H2) (hz : n < sizeLine) (hOk : Ok H)
    (step : ∀ D i x H' (C : VK) (N : Hp → Prop), i < n → itm i x H' → Same H H' → H D = none → (∃ acc, H' D = some (.lst acc)) → (∀ y H4, keep i = true → Same H' H4 → Elt D i y H4 → C y H4) → (∀ H4, keep i = false → Same H' H4 → N H4) →
      g x (wipe σ vs) H' fun σ2 H2 => wipe σ2 vs = wipe σ vs ∧ tt σ2 H2 fun b H3 => if b = true then te σ2 H3 C else N H3)
    (done : ∀ D H' ys, Same H H' → H D = none → H' D = some (.lst ys) → Paired (fun i y => Elt D i y H') ((List.range n).filter keep) ys → Qd D H') :
    ∀ D, H D = none → ∃ W : Nat → Nat → Hp → Prop, (∃ m, W 0 m (upd H D (.lst []))) ∧ ∀ i m H, W i m H →
      (J.stop i H ∧ Qd D H) ∨ (J.go i H ∧ ∃ Nx : Hp → Prop, (∀ H', Nx H' → ∃ m', m' < m ∧ W (i + 1) m' H') ∧ ∀ x H', J.yld i H x H' → g x (wipe σ vs) H' fun σ2 H2 => wipe σ2 vs = wipe σ vs ∧ tt σ2 H2 fun b H3 =>
        if b = true then te σ2 H3 fun y H4 => ∃ acc, H4 D = some (.lst acc) ∧ acc.length < sizeLine ∧ Nx (upd H4 D (.lst (acc ++ [y]))) else Nx H3) := by
  intro D hD
  let Pv : Nat → Hp → Prop := fun i H' => Same H H' ∧ ∃ ys, H' D = some (.lst ys) ∧ Paired (fun j y => Elt D j y H') ((List.range i).filter keep) ys
  refine ⟨fun i m H' => m = n - i ∧ i ≤ n ∧ Pv i H', ⟨n, by simp, Nat.zero_le _, Same.new hD, [], upd_same, .nil⟩, ?_⟩
  rintro i m H1 ⟨rfl, hi, s1, ys, e1, r1⟩
  have ok1 := wk.stay _ _ hOk s1
  by_cases hlt : i < n
  · refine .inr ⟨wk.go i H1 hlt ok1, Pv (i + 1), fun H' p' => ⟨n - (i + 1), by omega, rfl, hlt, p'⟩, fun x H2 y => ?_⟩
    obtain ⟨it, s2⟩ := wk.yld i H1 x H2 hlt ok1 y
    refine step D i x H2 _ _ hlt it (s1.trans s2) hD ⟨ys, s2 _ _ e1⟩ (fun y H4 k s4 el => ?_) fun H4 k s4 => ?_
    · have s14 := s2.trans s4
      have len : ys.length ≤ n := by
        rw [← paired_len r1]
        exact Nat.le_trans (List.length_filter_le _ _) (by rw [List.length_range]; exact hi)
      refine ⟨ys, s14 _ _ e1, Nat.lt_of_le_of_lt len hz, (s1.trans s14).put hD, _, upd_same, ?_⟩
      rw [List.range_succ, List.filter_append]
      have e2 : [i].filter keep = [i] := by simp [k]
      rw [e2]
      have b : But D H1 (upd H4 D (.lst (ys ++ [y]))) := fun b o nb q => by
        rw [upd_ne nb]
        exact s14 _ _ q
      exact paired_app (paired_imp r1 fun a c z => stab _ _ _ _ _ b z) (stab _ _ _ _ _ (but_upd D H4 _) el)
    · refine ⟨(s1.trans s2).trans s4, ys, s4 _ _ (s2 _ _ e1), ?_⟩
      rw [List.range_succ, List.filter_append]
      have e2 : [i].filter keep = [] := by simp [k]
      rw [e2, List.append_nil]
      exact paired_imp r1 fun a b z => stab _ _ _ _ _ (Same.but D (s2.trans s4)) z
  · have e : i = n := by omega
    subst e
    exact .inl ⟨wk.stop _ ok1, done D H1 ys s1 hD e1 r1⟩
/-- the items are values told by the place -/
theorem lc_walkF {g : TG} {tt : TT} {te : TE} {vs : List Nat} {σ : L2.St} {H : Hp} {Qd : Addr → Hp → Prop} (wk : Walks J n itm Ok) (keep : Nat → Bool) (F : Nat → V) (hz : n < sizeLine) (hOk : Ok H)
    (step : ∀ D i x H' (C : VK) (N : Hp → Prop), i < n → itm i x H' → Same H H' → H D = none → (∃ acc, H' D = some (.lst acc)) → (∀ H4, keep i = true → Same H' H4 → C (F i) H4) → (∀ H4, keep i = false → Same H' H4 → N H4) →
      g x (wipe σ vs) H' fun σ2 H2 => wipe σ2 vs = wipe σ vs ∧ tt σ2 H2 fun b H3 => if b = true then te σ2 H3 C else N H3)
    (done : ∀ D H', Same H H' → H D = none → H' D = some (.lst (((List.range n).filter keep).map F)) → Qd D H') :
    ∀ D, H D = none → ∃ W : Nat → Nat → Hp → Prop, (∃ m, W 0 m (upd H D (.lst []))) ∧ ∀ i m H, W i m H →
      (J.stop i H ∧ Qd D H) ∨ (J.go i H ∧ ∃ Nx : Hp → Prop, (∀ H', Nx H' → ∃ m', m' < m ∧ W (i + 1) m' H') ∧ ∀ x H', J.yld i H x H' → g x (wipe σ vs) H' fun σ2 H2 => wipe σ2 vs = wipe σ vs ∧ tt σ2 H2 fun b H3 =>
        if b = true then te σ2 H3 fun y H4 => ∃ acc, H4 D = some (.lst acc) ∧ acc.length < sizeLine ∧ Nx (upd H4 D (.lst (acc ++ [y]))) else Nx H3) :=
  lc_walk wk keep (fun D i y H => y = F i) (fun _ _ _ _ _ _ e => e) hz hOk (fun D i x H' C N hi it s hD ac kC kN => step D i x H' C N hi it s hD ac (fun H4 k s4 => kC _ H4 k s4 rfl) kN)
    fun D H' ys s hD e r => done D H' s hD (by rw [paired_map (f := F) r] at e; exact e)
/-- no test, the items are values told by the place -/
theorem lc_walkV {g : TG} {te : TE} {vs : List Nat} {σ : L2.St} {H : Hp} {Qd : Addr → Hp → Prop} (wk : Walks J n itm Ok) (F : Nat → V) (hz : n < sizeLine) (hOk : Ok H)
    (step : ∀ D i x H' (C : VK), i < n → itm i x H' → Same H H' → H D = none → (∃ acc, H' D = some (.lst acc)) → (∀ H4, Same H' H4 → C (F i) H4) → g x (wipe σ vs) H' fun σ2 H2 => wipe σ2 vs = wipe σ vs ∧ te σ2 H2 C)
    (done : ∀ D H', Same H H' → H D = none → H' D = some (.lst ((List.range n).map F)) → Qd D H') :
    ∀ D, H D = none → ∃ W : Nat → Nat → Hp → Prop, (∃ m, W 0 m (upd H D (.lst []))) ∧ ∀ i m H, W i m H →
      (J.stop i H ∧ Qd D H) ∨ (J.go i H ∧ ∃ Nx : Hp → Prop, (∀ H', Nx H' → ∃ m', m' < m ∧ W (i + 1) m' H') ∧ ∀ x H', J.yld i H x H' → g x (wipe σ vs) H' fun σ2 H2 => wipe σ2 vs = wipe σ vs ∧ tYes σ2 H2 fun b H3 =>
        if b = true then te σ2 H3 fun y H4 => ∃ acc, H4 D = some (.lst acc) ∧ acc.length < sizeLine ∧ Nx (upd H4 D (.lst (acc ++ [y]))) else Nx H3) := by
  refine lc_walk wk (fun _ => true) (fun D i y H => y = F i) (fun _ _ _ _ _ _ e => e) hz hOk (fun D i x H' C N hi it s hD ac hC _ => ?_) fun D H' ys s hD e r => ?_
  · exact step D i x H' C hi it s hD ac fun H4 s4 => hC _ H4 rfl s4 rfl
  · rw [List.filter_eq_self.mpr fun _ _ => rfl] at r
    rw [paired_map (f := F) r] at e
    exact done D H' s hD e
end
/-- a while, told by what stands and a number that falls -/
theorem while_own {c : TT} {tb : TS} {D : Ends} {σ : L2.St} {H : Hp} (Pv : L2.St → Hp → Prop) (μ : L2.St → Hp → Nat) (h0 : Pv σ H)
    (hs : ∀ σ H, Pv σ H → c σ H fun b H1 => if b = true then ∃ N : L2.St → Hp → Prop, (∀ σ' H', N σ' H' → ∃ m', m' < μ σ H ∧ m' = μ σ' H' ∧ Pv σ' H') ∧ tb { D with nx := N, ct := N, bk := D.nx } σ H1 else D.nx σ H1) : tWhile c tb D σ H := by
  refine ⟨fun m σ H => m = μ σ H ∧ Pv σ H, ⟨_, rfl, h0⟩, ?_⟩
  rintro m σ H ⟨rfl, p⟩
  exact hs σ H p
theorem whN {Pv : L2.St → Hp → Prop} {μ : L2.St → Hp → Nat} {m : Nat} : ∀ σ' H', (Pv σ' H' ∧ μ σ' H' < m) → ∃ m', m' < m ∧ m' = μ σ' H' ∧ Pv σ' H' := fun _ _ h => ⟨_, h.2, rfl, h.1⟩
abbrev lenR (K : PySem.W.Frag) : List V → Hp → VK → Prop := fun xs H Q => ∃ p ys, xs = [V.ref p] ∧ (SqL K H p ys ∨ SqT K H p ys) ∧ Q (.int ys.length) H
abbrev listR (K : PySem.W.Frag) : List V → Hp → VK → Prop := fun xs H Q => ∃ p ys, xs = [V.ref p] ∧ (SqL K H p ys ∨ SqT K H p ys) ∧ ∀ l, H l = none → Q (.ref l) (upd H l (.lst ys))
abbrev tupR (K : PySem.W.Frag) : List V → Hp → VK → Prop := fun xs H Q => ∃ p ys, xs = [V.ref p] ∧ ((SqL K H p ys ∧ ∀ l, H l = none → Q (.ref l) (upd H l (.tup ys))) ∨ (SqT K H p ys ∧ Q (.ref p) H))
theorem ne_of_none' {H : Hp} {a t : Addr} {o : HO} (e : H a = some o) (h : H t = none) : t ≠ a := fun q => by
  rw [q, e] at h
  cases h
theorem pe_globI {X : Cx} {x : Str} {n : Int} {pos : Pos} (hg : Gl X x) (hm : ∃ t, X.mg x = some (.int n t)) (hd : (x == ("__debug__" : Str)) = false := by decide) : PE X (.Name x pos) (tC (.int n)) := by
  obtain ⟨t, hm⟩ := hm
  exact pe_glob (v := .int n) hg hm ⟨t, rfl⟩ hd
theorem ne_tt {a b : Int} (e : (!decide (V.int a = V.int b)) = true) : a ≠ b := fun z => by
  rw [z] at e
  simp at e
theorem ne_ff {a b : Int} (e : ¬ (!decide (V.int a = V.int b)) = true) : a = b := by
  by_cases z : a = b
  · exact z
  · refine absurd ?_ e
    have : decide (V.int a = V.int b) = false := decide_eq_false fun q => z (V.int.inj q)
    rw [this]
    rfl
theorem eq_tt {a b : Int} (e : decide (V.int a = V.int b) = true) : a = b := V.int.inj (of_decide_eq_true e)
theorem eq_ff {a b : Int} (e : ¬ decide (V.int a = V.int b) = true) : a ≠ b := fun z => e (decide_eq_true (congrArg V.int z))
theorem asg1 {te : TE} {g : TG} {D : Ends} {σ : L2.St} {H : Hp} (h : te σ H fun x H1 => g x σ H1 D.nx) : tAsg te g D σ H := h
theorem op1 {r : R2} {ta tb : TE} {σ : L2.St} {H : Hp} {Q : VK} (h : ta σ H fun x H1 => tb σ H1 fun y H2 => r x y H2 Q) : tOp r ta tb σ H Q := h
theorem seq1 {t u : TS} {D : Ends} {σ : L2.St} {H : Hp} (h : t { D with nx := u D } σ H) : tSeq t u D σ H := h
theorem ret1 {te : TE} {D : Ends} {σ : L2.St} {H : Hp} (h : te σ H D.rt) : tRet te D σ H := h
theorem cons1 {ta : TE} {tr : TA} {σ : L2.St} {H : Hp} {Q : List V → Hp → Prop} (h : ta σ H fun x H1 => tr σ H1 fun xs H2 => Q (x :: xs) H2) : tCons ta tr σ H Q := h
theorem call1 {sp : Sp} {dvs : List V} {E : XK} {t : TA} {σ : L2.St} {H : Hp} {Q : VK} (h : t σ H fun vs H1 => sp (vs ++ dvs) H1 Q E) : tCall sp dvs E t σ H Q := h
theorem if1 {c : TT} {t u : TS} {D : Ends} {σ : L2.St} {H : Hp} (h : c σ H fun b H1 => if b = true then t D σ H1 else u D σ H1) : tIfS c t u D σ H := h
theorem test1 {t : TE} {σ : L2.St} {H : Hp} {Q : Bool → Hp → Prop} (h : t σ H fun x H' => ∃ k, x = .bl k ∧ Q k H') : tTest t σ H Q := h
theorem cb1 {r : List V → Hp → VK → Prop} {t : TA} {σ : L2.St} {H : Hp} {Q : VK} (h : t σ H fun vs H1 => r vs H1 Q) : tCB r t σ H Q := h
theorem tcb1 {r : List V → Hp → VK → Prop} {te : TE} {σ : L2.St} {H : Hp} {Q : VK} (h : te σ H fun x H1 => r [x] H1 Q) : tCB r (tCons te tNil) σ H Q := h
theorem iteT' {p q : Prop} {c : Bool} (e : c = true) (h : p) : if c = true then p else q := by
  rw [if_pos e]
  exact h
/-- over a list or a tuple -/
theorem lcS_V {K : PySem.W.Frag} {a : Addr} {xs : List V} {tl : TE} {g : TG} {te : TE} {vs : List Nat} {σ : L2.St} {H : Hp} {Q : VK} (F : Nat → V) (htl : ∀ R : VK, R (.ref a) H → tl σ H R) (hx : SqX K H a xs) (hz : xs.length < sizeLine)
    (step : ∀ D i x H' (C : VK), i < xs.length → xs[i]? = some x → Same H H' → H D = none → (∃ acc, H' D = some (.lst acc)) → (∀ H4, Same H' H4 → C (F i) H4) → g x (wipe σ vs) H' fun σ2 H2 => wipe σ2 vs = wipe σ vs ∧ te σ2 H2 C)
    (done : ∀ D H', Same H H' → H D = none → H' D = some (.lst ((List.range xs.length).map F)) → Q (.ref D) H') : tLc (iSeq K tl) g tYes te vs σ H Q :=
  htl _ ⟨a, rfl, hx.elim (fun hx => .inl ⟨⟨xs, hx⟩, lc_walkV wk_list F hz hx step done⟩) fun hx => .inr ⟨⟨xs, hx⟩, lc_walkV wk_tup F hz hx step done⟩⟩
/-- .. over a list, by the plain rule -/
theorem lcL_V {K : PySem.W.Frag} {a : Addr} {xs : List V} {tl : TE} {g : TG} {te : TE} {vs : List Nat} {σ : L2.St} {H : Hp} {Q : VK} (F : Nat → V) (htl : ∀ R : VK, R (.ref a) H → tl σ H R) (hx : SqL K H a xs) (hz : xs.length < sizeLine)
    (step : ∀ D i x H' (C : VK), i < xs.length → xs[i]? = some x → Same H H' → H D = none → (∃ acc, H' D = some (.lst acc)) → (∀ H4, Same H' H4 → C (F i) H4) → g x (wipe σ vs) H' fun σ2 H2 => wipe σ2 vs = wipe σ vs ∧ te σ2 H2 C)
    (done : ∀ D H', Same H H' → H D = none → H' D = some (.lst ((List.range xs.length).map F)) → Q (.ref D) H') : tLc (iList K tl) g tYes te vs σ H Q :=
  htl _ ⟨a, rfl, ⟨xs, hx⟩, lc_walkV wk_list F hz hx step done⟩
/-- what a list of truth values by place is -/
theorem paired_cat {α β : Type} {F : α → β → Prop} : ∀ {l l2 : List α} {m m2 : List β}, Paired F l m → Paired F l2 m2 → Paired F (l ++ l2) (m ++ m2)
  | _, _, _, _, .nil, h => h
  | _, _, _, _, .cons r t, h => .cons r (paired_cat t h)
theorem paired_mk {α β : Type} {F : α → β → Prop} : ∀ {xs : List α} {ys : List β}, xs.length = ys.length → (∀ (i : Nat) a b, xs[i]? = some a → ys[i]? = some b → F a b) → Paired F xs ys
  | [], [], _, _ => .nil
  | x :: xs, y :: ys, e, h => .cons (h 0 x y (by simp) (by simp)) (paired_mk (by simpa using e) fun i a b h1 h2 => h (i + 1) a b (by simpa using h1) (by simpa using h2))
  | [], _ :: _, e, _ => by simp at e
  | _ :: _, [], e, _ => by simp at e
theorem paired_idx {α β : Type} {F : α → β → Prop} {xs : List α} {ys : List β} (h : Paired F xs ys) {i : Nat} {a : α} {b : β} (ha : xs[i]? = some a) (hb : ys[i]? = some b) : F a b := by
  obtain ⟨a', ea, r⟩ := paired_at h hb
  rw [ha] at ea
  cases ea
  exact r
theorem nodup_at {α : Type} {xs : List α} (nd : xs.Nodup) {i j : Nat} {a : α} (hi : xs[i]? = some a) (hj : xs[j]? = some a) : i = j := by
  obtain ⟨h1, e1⟩ := List.getElem?_eq_some_iff.mp hi
  obtain ⟨h2, e2⟩ := List.getElem?_eq_some_iff.mp hj
  have p := List.pairwise_iff_getElem.mp nd
  rcases Nat.lt_trichotomy i j with h | h | h
  · exact absurd (e1.trans e2.symm) (p i j h1 h2 h)
  · exact h
  · exact absurd (e2.trans e1.symm) (p j i h2 h1 h)
theorem range_map {α β : Type} (l : List α) (F : Nat → β) (p : α → β) (h : ∀ i a, l[i]? = some a → F i = p a) : (List.range l.length).map F = l.map p := by
  apply List.ext_getElem?
  intro i
  by_cases hi : i < l.length
  · rw [List.getElem?_map, List.getElem?_range hi, List.getElem?_map, List.getElem?_eq_getElem hi]
    exact congrArg some (h i _ (List.getElem?_eq_getElem hi))
  · rw [List.getElem?_eq_none (by simp; omega), List.getElem?_eq_none (by simp; omega)]
end Kz
end
section
set_option Elab.async false
set_option linter.all false
set_option maxRecDepth 100000
set_option maxHeartbeats 4000000
/-! the shapes -/
namespace Kz
open PySem PySem.Spec PyProof.Rows L2
/-! ### what they tell -/
def btwD : PD → Int → Int → Bool
  | .int i, lo, hi => decide (lo ≤ i) && decide (i ≤ hi)
  | _, _, _ => false
def rowD (n : Int) : PD → Bool
  | .seq xs => decide ((xs.length : Int) = n) && xs.all isNumD
  | _ => false
def rowsD (n : Int) : PD → Bool
  | .seq xs => xs.all (rowD n)
  | _ => false
def spIsNumber (K : PySem.W.Frag) : Sp := fun vs H Q _ => ∃ v d, vs = [v] ∧ PDR K H v d ∧ Q (.bl (isNumD d)) H
def spIsBetween (K : PySem.W.Frag) : Sp := fun vs H Q _ => ∃ v d lo hi, vs = [v, .int lo, .int hi] ∧ PDR K H v d ∧ Q (.bl (btwD d lo hi)) H
def spIsList (K : PySem.W.Frag) : Sp := fun vs H Q _ => ∃ v d, vs = [v] ∧ PDR K H v d ∧ ∀ H', Same H H' → Q (.bl (isSeqD d)) H'
/-- every sequence within is short -/
def lenD : PD → Prop
  | .seq xs => xs.length < sizeLine
  | _ => True
def smallD : PD → Prop
  | .seq xs => xs.length < sizeLine ∧ ∀ x ∈ xs, lenD x
  | _ => True
def spIsRow (K : PySem.W.Frag) : Sp := fun vs H Q _ => ∃ v d n, vs = [v, .int n] ∧ PDR K H v d ∧ lenD d ∧ ∀ H', Same H H' → Q (.bl (rowD n d)) H'
def spAreRows (K : PySem.W.Frag) : Sp := fun vs H Q _ => ∃ v d n, vs = [v, .int n] ∧ PDR K H v d ∧ smallD d ∧ ∀ H', Same H H' → Q (.bl (rowsD n d)) H'
section
variable {P : Program} {w : World} {K : PySem.W.Frag} {mg : Str → Option Value} {base : Heap}
abbrev N_is_number : List Str := ["thing"]
theorem sc_is_number : FnScope N_is_number ["thing"] (defScope sd_is_number) := ⟨rfl, rfl, rfl, by decide +kernel, rfl, by decide +kernel, by decide +kernel⟩
theorem f_is_number (D : DefAt K mg "is_number" sd_is_number) (T : Txt K mg) : FnS P w K mg base CX0 1 "is_number" ["thing"] (spIsNumber K) :=
  mkFn D sc_is_number (fun _ _ _ _ _ _ us hl => match us, hl with | [_], _ => rfl) (fun vs H Q E ⟨_, _, e, _⟩ => by rw [e]; rfl) fun cdv A outer s H vs Q E hr ⟨v, d, e, hd, q⟩ => by
  subst e
  obtain ⟨t, b1, b2, ty, k1, k2, hb, _⟩ := hd.tells
  refine ⟨_, (pss_one (ps_ret (pe_and (pe_callB call_isi (by rfl) T.isinstance_ bo_isinstance (pa_cons (pv 0) (pa_cons (pe_bltn (v := .ty "int") (by rfl) T.int_ bo_int rfl) pa_nil))) (pe_one (pe_not (pe_callB call_isi (by rfl) T.isinstance_ bo_isinstance (pa_cons (pv 0) (pa_cons (pe_bltn (v := .ty "bool") (by rfl) T.bool_ bo_bool rfl) pa_nil)))))))), ?_⟩
  refine ⟨v, rfl, v, .ty "int", t, .type "int", b1, rfl, .ty _, ty, k1, b1, rfl, ?_⟩
  cases b1 with
  | false =>
    rw [← hb] at q
    exact q
  | true =>
    refine ⟨v, rfl, v, .ty "bool", t, .type "bool", b2, rfl, .ty _, ty, k2, b2, rfl, ?_⟩
    rw [← hb] at q
    exact q
abbrev N_is_between : List Str := ["thing", "low", "high"]
theorem sc_is_between : FnScope N_is_between ["thing", "low", "high"] (defScope sd_is_between) := ⟨rfl, rfl, rfl, by decide +kernel, rfl, by decide +kernel, by decide +kernel⟩
theorem f_is_between (D : DefAt K mg "is_between" sd_is_between) (T : Txt K mg) (f_is_number : FnS P w K mg base CX0 1 "is_number" ["thing"] (spIsNumber K)) : FnS P w K mg base CX0 2 "is_between" ["thing", "low", "high"] (spIsBetween K) :=
  mkFn D sc_is_between (fun _ _ _ _ _ _ us hl => match us, hl with | [_, _, _], _ => rfl) (fun vs H Q E ⟨_, _, _, _, e, _⟩ => by rw [e]; rfl) fun cdv A outer s H vs Q E hr ⟨v, d, lo, hi, e, hd, q⟩ => by
  subst e
  refine ⟨_, (pss_one (ps_ret (pe_and (pe_call f_is_number.ok (hr.mono (by decide)) rfl f_is_number.g f_is_number.kp f_is_number.b .nil pass0 (pa_cons (pv 0) pa_nil)) (pe_one (pe_chain op_le op_le (pv 1) (pv 0) (pv 2)))))), ?_⟩
  refine ⟨v, rfl, v, d, rfl, hd, isNumD d, rfl, ?_⟩
  cases hd with
  | int i =>
    refine ⟨_, rfl, _, rfl, _, _, rfl, rfl, _, rfl, ?_⟩
    refine ite2 (fun e => ?_) (fun e => ?_)
    · refine ⟨_, rfl, _, _, rfl, rfl, ?_⟩
      have e2 : btwD (.int i) lo hi = decide (i ≤ hi) := by simp [btwD, of_decide_eq_true e]
      rw [e2] at q
      exact q
    · have e2 : btwD (.int i) lo hi = false := by
        have h1 : ¬ (lo ≤ i) := fun z => e (decide_eq_true z)
        simp [btwD, h1]
      rw [e2] at q
      exact q
  | _ => exact q
abbrev N_is_list : List Str := ["thing"]
theorem sc_is_list : FnScope N_is_list ["thing"] (defScope sd_is_list) := ⟨rfl, rfl, rfl, by decide +kernel, rfl, by decide +kernel, by decide +kernel⟩
theorem f_is_list (D : DefAt K mg "is_list" sd_is_list) (T : Txt K mg) : FnS P w K mg base CX0 1 "is_list" ["thing"] (spIsList K) :=
  mkFn D sc_is_list (fun _ _ _ _ _ _ us hl => match us, hl with | [_], _ => rfl) (fun vs H Q E ⟨_, _, e, _⟩ => by rw [e]; rfl) fun cdv A outer s H vs Q E hr ⟨v, d, e, hd, q⟩ => by
  subst e
  refine ⟨_, (pss_one (ps_ret (pe_callB call_isiT (by rfl) T.isinstance_ bo_isinstance (pa_cons (pv 0) (pa_cons (pe_tup (pa_cons (pe_bltn (v := .ty "list") (by rfl) T.list_ bo_list rfl) (pa_cons (pe_bltn (v := .ty "tuple") (by rfl) T.tuple_ bo_tuple rfl) pa_nil))) pa_nil))))), ?_⟩
  refine ⟨v, rfl, (by show 2 ≤ sizeLine; decide), fun tp ht => ?_⟩
  obtain ⟨t, b1, b2, ty, k1, k2, hb, k3⟩ := (hd.mono (Same.new (o := .tup [.ty "list", .ty "tuple"]) ht)).tells
  exact ⟨v, tp, _, t, _, _, rfl, upd_same, .cons (.ty _) (.cons (.ty _) .nil), ty, k3, q _ (Same.new ht)⟩
abbrev N_is_row : List Str := ["thing", "size", "item"]
theorem sc_is_row : FnScope N_is_row ["thing", "size"] (defScope sd_is_row) := ⟨rfl, rfl, rfl, by decide +kernel, rfl, by decide +kernel, by decide +kernel⟩
theorem f_is_row (D : DefAt K mg "is_row" sd_is_row) (T : Txt K mg) (f_is_number : FnS P w K mg base CX0 1 "is_number" ["thing"] (spIsNumber K)) (f_is_list : FnS P w K mg base CX0 1 "is_list" ["thing"] (spIsList K)) :
    FnS P w K mg base CX0 2 "is_row" ["thing", "size"] (spIsRow K) :=
  mkFn D sc_is_row (fun _ _ _ _ _ _ us hl => match us, hl with | [_, _], _ => rfl) (fun vs H Q E ⟨_, _, _, e, _⟩ => by rw [e]; rfl) fun cdv A outer s H vs Q E hr ⟨v, d, n, e, hd, hs, q⟩ => by
  subst e
  refine ⟨_, (pss_one (ps_ret (pe_and (pe_call f_is_list.ok (hr.mono (by decide)) rfl f_is_list.g f_is_list.kp f_is_list.b .nil pass0 (pa_cons (pv 0) pa_nil)) (pe_and (pe_cmpR op_eq (pe_callB call_len_seq (by rfl) T.len_ bo_len (pa_cons (pv 0) pa_nil)) (pv 1) (nomark _)) (pe_one (pe_callB (cr_all rfl) (by rfl) T.all_ bo_all (pa_cons (pe_lc (own := [("item", 2)]) (g := (gName 2)) rfl sc_is_row.nd (pi_seq (pv 0)) (blkOk_by (N := N_is_row) (sc := defScope sd_is_row) (by decide +kernel)) (fun _ _ _ _ _ => (pg_name (i := 2) sc_is_row.nd rfl (.inl rfl))) (fun _ _ _ _ _ => pts_nil) (fun _ _ _ _ _ => (pe_call f_is_number.ok (hr.mono (by decide)) rfl f_is_number.g f_is_number.kp f_is_number.b .nil pass0 (pa_cons (pv 2) pa_nil)))) pa_nil))))))), ?_⟩
  refine ⟨v, rfl, v, d, rfl, hd, fun H1 s1 => ?_⟩
  refine ⟨isSeqD d, rfl, ?_⟩
  have hd1 := hd.mono s1
  cases hd1 with
  | @seq a vs xs hx r =>
    refine ⟨_, rfl, _, _, rfl, hx, _, rfl, rfl, _, rfl, ?_⟩
    have len : ((vs.length : Nat) : Int) = n ↔ ((xs.length : Nat) : Int) = n := by rw [r.len]
    refine ite2 (fun e => ?_) (fun e => ?_)
    · have e1 : ((xs.length : Nat) : Int) = n := len.mp (V.int.inj (of_decide_eq_true e))
      refine tcb1 (lcS_V (K := K) (fun i => .bl (match xs[i]? with | some d => isNumD d | none => false)) (fun R h => ⟨_, rfl, h⟩) hx (by rw [r.len]; exact hs) (fun D i x H' C hi hxi s2 hD ac k => ?_) fun D H' s2 hD e2 => ?_)
      · obtain ⟨di, h1, h2⟩ := r.at_ hxi
        refine ⟨rfl, x, rfl, x, di, rfl, h2.mono s2, ?_⟩
        have := k H' (Same.refl _)
        rw [h1] at this
        exact this
      · refine ⟨D, xs.map isNumD, rfl, SqL.of ?_, ?_⟩
        · rw [e2, r.len, range_map xs _ (fun d => V.bl (isNumD d)) fun i a h => by rw [h], List.map_map]
          rfl
        · have e3 : rowD n (.seq xs) = (xs.map isNumD).all id := by
            simp [rowD, e1, List.all_map]
          rw [← e3]
          exact q _ (s1.trans s2)
    · have e3 : rowD n (.seq xs) = false := by
        have z : ¬ ((xs.length : Int) = n) := fun z => e (decide_eq_true (by rw [len.mpr z]))
        simp [rowD, z]
      rw [← e3]
      exact q _ s1
  | _ => exact q _ s1
abbrev N_are_rows : List Str := ["thing", "size", "row"]
theorem sc_are_rows : FnScope N_are_rows ["thing", "size"] (defScope sd_are_rows) := ⟨rfl, rfl, rfl, by decide +kernel, rfl, by decide +kernel, by decide +kernel⟩
theorem f_are_rows (D : DefAt K mg "are_rows" sd_are_rows) (T : Txt K mg) (f_is_list : FnS P w K mg base CX0 1 "is_list" ["thing"] (spIsList K)) (f_is_row : FnS P w K mg base CX0 2 "is_row" ["thing", "size"] (spIsRow K)) :
    FnS P w K mg base CX0 3 "are_rows" ["thing", "size"] (spAreRows K) :=
  mkFn D sc_are_rows (fun _ _ _ _ _ _ us hl => match us, hl with | [_, _], _ => rfl) (fun vs H Q E ⟨_, _, _, e, _⟩ => by rw [e]; rfl) fun cdv A outer s H vs Q E hr ⟨v, d, n, e, hd, hs, q⟩ => by
  subst e
  refine ⟨_, (pss_one (ps_ret (pe_and (pe_call f_is_list.ok (hr.mono (by decide)) rfl f_is_list.g f_is_list.kp f_is_list.b .nil pass0 (pa_cons (pv 0) pa_nil)) (pe_one (pe_callB (cr_all rfl) (by rfl) T.all_ bo_all (pa_cons (pe_lc (own := [("row", 2)]) (g := (gName 2)) rfl sc_are_rows.nd (pi_seq (pv 0)) (blkOk_by (N := N_are_rows) (sc := defScope sd_are_rows) (by decide +kernel)) (fun _ _ _ _ _ => (pg_name (i := 2) sc_are_rows.nd rfl (.inl rfl))) (fun _ _ _ _ _ => pts_nil) (fun _ _ _ _ _ => (pe_call f_is_row.ok (hr.mono (by decide)) rfl f_is_row.g f_is_row.kp f_is_row.b .nil pass0 (pa_cons (pv 2) (pa_cons (pv 1) pa_nil))))) pa_nil)))))), ?_⟩
  refine ⟨v, rfl, v, d, rfl, hd, fun H1 s1 => ?_⟩
  refine ⟨isSeqD d, rfl, ?_⟩
  have hd1 := hd.mono s1
  cases hd1 with
  | @seq a vs xs hx r =>
    refine iteT' rfl (tcb1 (lcS_V (K := K) (fun i => .bl (match xs[i]? with | some d => rowD n d | none => false)) (fun R h => ⟨_, rfl, h⟩) hx (by rw [r.len]; exact hs.1) (fun D i x H' C hi hxi s2 hD ac k => ?_) fun D H' s2 hD e2 => ?_))
    · obtain ⟨di, h1, h2⟩ := r.at_ hxi
      refine ⟨rfl, x, rfl, .int n, rfl, x, di, n, rfl, h2.mono s2, hs.2 _ (List.mem_of_getElem? h1), fun H4 s4 => ?_⟩
      have := k H4 s4
      rw [h1] at this
      exact this
    · refine ⟨D, xs.map (rowD n), rfl, SqL.of ?_, ?_⟩
      · rw [e2, r.len, range_map xs _ (fun d => V.bl (rowD n d)) fun i a h => by rw [h], List.map_map]
        rfl
      · have e3 : rowsD n (.seq xs) = (xs.map (rowD n)).all id := by
          simp [rowsD, List.all_map]
        rw [← e3]
        exact q _ (s1.trans s2)
  | _ => exact q _ s1
end
end Kz
end
section
set_option Elab.async false
set_option linter.all false
set_option maxRecDepth 100000
set_option maxHeartbeats 4000000
/-! the needs -/
namespace Kz
open PySem PySem.Spec PyProof.Rows L2
abbrev primesL : List Int := [2, 3, 5, 7, 11, 13, 17, 19, 23, 29, 31, 37, 41, 43, 47, 53, 59, 61, 67, 71, 73, 79, 83, 89, 97]
def spNeedPrime : Sp := fun vs H Q _ => ∃ i, vs = [.int i] ∧ i ∈ primesL ∧ Q .non H
def spNeedLetters (K : PySem.W.Frag) (C : Addr) : Sp := fun vs H Q E => ∃ v d, vs = [v] ∧ PDR K H v d ∧ (btwD d 1 9 = true → Q .non H) ∧ (btwD d 1 9 = false → ∀ e, H e = none → E (.ref C) (some e) (upd H e (.xd [("part", .str "letters")])))
def spNeedFrom : Sp := fun vs H Q _ => ∃ i p, vs = [.int i, p] ∧ 0 ≤ i ∧ Q .non H
def spManyWords : Sp := fun vs H Q _ => ∃ n L : Nat, vs = [.int n, .int L] ∧ 1 ≤ n ∧ n ^ L ≤ 1000 ∧ L < 1000 ∧ ∀ H', Same H H' → Q (.int ((n ^ L : Nat) : Int)) H'
def spNeedRows (K : PySem.W.Frag) : Sp := fun vs H Q _ => ∃ v d n, vs = [v, .int n] ∧ PDR K H v d ∧ smallD d ∧ rowsD n d = true ∧ ∀ H', Same H H' → Q .non H'
section
variable {P : Program} {w : World} {K : PySem.W.Frag} {mg : Str → Option Value} {base : Heap}
abbrev N_need_prime : List Str := ["prime"]
theorem sc_need_prime : FnScope N_need_prime ["prime"] (defScope sd_need_prime) := ⟨rfl, rfl, rfl, by decide +kernel, rfl, by decide +kernel, by decide +kernel⟩
theorem f_need_prime (D : DefAt K mg "need_prime" sd_need_prime) (T : Txt K mg) (f_is_number : FnS P w K mg base CX0 1 "is_number" ["thing"] (spIsNumber K)) : FnS P w K mg base CX0 2 "need_prime" ["prime"] spNeedPrime :=
  mkFn D sc_need_prime (fun _ _ _ _ _ _ us hl => match us, hl with | [_], _ => rfl) (fun vs H Q E ⟨_, e, _⟩ => by rw [e]; rfl) fun cdv A outer s H vs Q E hr ⟨i, e, mem, q⟩ => by
  subst e
  refine ⟨_, (pss_one (ps_if (PW.pt (pw_or (pt_not (pt_val (pe_call f_is_number.ok (hr.mono (by decide)) rfl f_is_number.g f_is_number.kp f_is_number.b .nil pass0 (pa_cons (pv 0) pa_nil)))) (pw_or1 (pt_cmpR op_notIn_seq (pv 0) (pe_glob (v := .ref _) rfl T.g_PRIMES rfl) rfl)))) (pss_one ps_never) pss_nil)), ?_⟩
  refine ⟨_, rfl, _, _, rfl, .int i, true, rfl, ?_⟩
  refine ⟨_, rfl, _, _, rfl, .inr (T.primes H), rfl, by decide, false, ?_, ?_⟩
  · have h : ∀ i ∈ primesL, V.bl (if true = true then !inV (.int i) (primesL.map V.int) else inV (.int i) (primesL.map V.int)) = V.bl false := by decide
    exact h i mem
  · exact q
abbrev N_need_letters : List Str := ["letters"]
theorem sc_need_letters : FnScope N_need_letters ["letters"] (defScope sd_need_letters) := ⟨rfl, rfl, rfl, by decide +kernel, rfl, by decide +kernel, by decide +kernel⟩
theorem f_need_letters {C fI : Addr} (D : DefAt K mg "need_letters" sd_need_letters) (T : Txt K mg) (B : BnT K mg C fI) (f_is_between : FnS PG w K mg base CX0 2 "is_between" ["thing", "low", "high"] (spIsBetween K)) :
    FnS PG w K mg base (L2.CX PG w) 3 "need_letters" ["letters"] (spNeedLetters K C) :=
  mkFn D sc_need_letters (fun _ _ _ _ _ _ us hl => match us, hl with | [_], _ => rfl) (fun vs H Q E ⟨_, _, e, _⟩ => by rw [e]; rfl) fun cdv A outer s H vs Q E hr ⟨v, d, e, hd, q1, q2⟩ => by
  subst e
  refine ⟨_, (pss_one (ps_if (pt_not (pt_val (pe_call f_is_between.ok (hr.mono (by decide)) rfl f_is_between.g f_is_between.kp f_is_between.b .nil pass0 (pa_cons (pv 0) (pa_cons pe_int (pa_cons (pe_globI rfl T.MOST_LETTERS) pa_nil)))))) (pss_one (ps_raiseBn rfl rfl B hr (takes_of rfl rfl rfl rfl) (pa_cons pe_str pa_nil))) pss_nil)), ?_⟩
  refine ⟨v, rfl, v, d, 1, 9, rfl, hd, _, rfl, ?_⟩
  cases e : btwD d 1 9 with
  | true => exact q1 e
  | false => exact ⟨_, rfl, fun x hx => q2 e x hx⟩
abbrev N_need_from : List Str := ["number", "part"]
theorem sc_need_from : FnScope N_need_from ["number", "part"] (defScope sd_need_from) := ⟨rfl, rfl, rfl, by decide +kernel, rfl, by decide +kernel, by decide +kernel⟩
theorem f_need_from (D : DefAt K mg "need_from" sd_need_from) (T : Txt K mg) (f_is_number : FnS P w K mg base CX0 1 "is_number" ["thing"] (spIsNumber K)) : FnS P w K mg base CX0 2 "need_from" ["number", "part"] spNeedFrom :=
  mkFn D sc_need_from (fun _ _ _ _ _ _ us hl => match us, hl with | [_, _], _ => rfl) (fun vs H Q E ⟨_, _, e, _⟩ => by rw [e]; rfl) fun cdv A outer s H vs Q E hr ⟨i, p, e, h0, q⟩ => by
  subst e
  refine ⟨_, (pss_one (ps_if (PW.pt (pw_or (pt_not (pt_val (pe_call f_is_number.ok (hr.mono (by decide)) rfl f_is_number.g f_is_number.kp f_is_number.b .nil pass0 (pa_cons (pv 0) pa_nil)))) (pw_or1 (pt_cmpR op_lt (pv 0) pe_int (nomark _))))) (pss_one ps_never) pss_nil)), ?_⟩
  refine ⟨_, rfl, _, _, rfl, .int i, true, rfl, ?_⟩
  refine ⟨_, rfl, _, _, rfl, rfl, _, rfl, ?_⟩
  refine ite2 (fun e => ?_) fun e => q
  have := of_decide_eq_true e
  omega
abbrev N_many_words : List Str := ["letters", "length", "found", "lap"]
theorem sc_many_words : FnScope N_many_words ["letters", "length"] (defScope sd_many_words) := ⟨rfl, rfl, rfl, by decide +kernel, rfl, by decide +kernel, by decide +kernel⟩
theorem f_many_words (D : DefAt K mg "many_words" sd_many_words) (T : Txt K mg) : FnS P w K mg base CX0 1 "many_words" ["letters", "length"] spManyWords :=
  mkFn D sc_many_words (fun _ _ _ _ _ _ us hl => match us, hl with | [_, _], _ => rfl) (fun vs H Q E ⟨_, _, e, _⟩ => by rw [e]; rfl) fun cdv A outer s H vs Q E hr ⟨n, L, e, h1, hp, hL, q⟩ => by
  subst e
  refine ⟨_, (pss_cons (ps_set (i := 2) sc_many_words.nd rfl (.inl rfl) pe_int)
      (pss_cons (ps_for (passes_of rfl) rfl (pi_range1 rfl T.range_ (pa_cons (pe_ifExp (pt_cmpR op_gt (pv 0) pe_int (nomark _)) (pv 1) pe_int) pa_nil)) (pg_name (i := 3) sc_many_words.nd rfl (.inl rfl)) (pss_cons (ps_aug (i := 2) sc_many_words.nd rfl (.inl rfl) (pv 0) iop_mul)
      (pss_one (ps_if (pt_cmpR op_gt (pv 2) (pe_globI rfl T.MOST_WORDS) (nomark _)) (pss_one ps_never) pss_nil))))
      (pss_one (ps_ret (pv 2))))), ?_⟩
  have turn : ∀ m : Nat, n ^ m = n ^ L → m ≤ L → ∀ i x σ H1 H2, i < m → (Same H H1 ∧ ∃ x, σ = [some (V.int n), some (.int L), some (.int ((n ^ i : Nat) : Int)), x]) → Same H1 H2 → x = .int (0 + i) →
      gName 3 x σ H2 fun σ2 H3 => tSeq (tAug 2 (tVar 0) (rI CMul fun i j => .int (i * j))) (tIfS (tTest (tOp (rI0 fun i j => .bl (decide (j < i))) (tVar 2) (tC (.int 1000)))) tNever tNext) { nx := fun σ H' => Same H H' ∧ ∃ x, σ = [some (V.int n), some (.int L), some (.int ((n ^ (i + 1) : Nat) : Int)), x], rt := Q } σ2 H3 := fun m em hm i x σ H1 H2 hi p s2 it => by
    obtain ⟨s1, x0, rfl⟩ := p
    subst it
    have le : n ^ (i + 1) ≤ 1000 := Nat.le_trans (Nat.pow_le_pow_right h1 (by omega)) hp
    have le0 : n ^ i ≤ 1000 := Nat.le_trans (Nat.pow_le_pow_right h1 (by omega)) hp
    have e3 : ((n ^ i : Nat) : Int) * (n : Int) = ((n ^ (i + 1) : Nat) : Int) := by rw [Nat.pow_succ]; simp
    refine ⟨_, rfl, _, rfl, _, _, rfl, rfl, .inl ⟨by omega, by omega⟩, ?_⟩
    refine ⟨_, rfl, _, _, rfl, rfl, _, rfl, ite2 (fun e => ?_) fun e => ⟨s1.trans s2, some (.int (0 + i)), ?_⟩⟩
    · have := of_decide_eq_true e
      rw [e3] at this
      omega
    · show [_, _, some (V.int (((n ^ i : Nat) : Int) * (n : Int))), _] = _
      rw [e3]
  have fin : ∀ m : Nat, n ^ m = n ^ L → ∀ σ H1, (Same H H1 ∧ ∃ x, σ = [some (V.int n), some (.int L), some (.int ((n ^ m : Nat) : Int)), x]) → ∃ v, σ[2]? = some (some v) ∧ Q v H1 := fun m em σ H1 p => by
    obtain ⟨s1, x0, rfl⟩ := p
    rw [em]
    exact ⟨_, rfl, q _ s1⟩
  refine ⟨_, rfl, _, _, rfl, rfl, _, rfl, ite2 (fun e => ?_) fun e => ?_⟩
  · refine ⟨_, rfl, L, rfl, by omega, by omega, ?_⟩
    exact for_walk wk_range _ ⟨Same.refl _, _, rfl⟩ (fun _ _ _ _ _ => True.intro) (turn L rfl (Nat.le_refl _)) (fin L rfl)
  · refine ⟨0, rfl, by omega, by omega, ?_⟩
    have e1 : n = 1 := by
      have h : ¬ ((1 : Int) < (n : Int)) := fun z => e (decide_eq_true z)
      omega
    have e2 : n ^ 0 = n ^ L := by rw [e1, Nat.one_pow, Nat.one_pow]
    exact for_walk wk_range _ ⟨Same.refl _, _, rfl⟩ (fun _ _ _ _ _ => True.intro) (turn 0 e2 (Nat.zero_le _)) (fin 0 e2)
abbrev N_need_rows : List Str := ["thing", "size"]
theorem sc_need_rows : FnScope N_need_rows ["thing", "size"] (defScope sd_need_rows) := ⟨rfl, rfl, rfl, by decide +kernel, rfl, by decide +kernel, by decide +kernel⟩
theorem f_need_rows (D : DefAt K mg "need_rows" sd_need_rows) (T : Txt K mg) (f_are_rows : FnS P w K mg base CX0 3 "are_rows" ["thing", "size"] (spAreRows K)) : FnS P w K mg base CX0 4 "need_rows" ["thing", "size"] (spNeedRows K) :=
  mkFn D sc_need_rows (fun _ _ _ _ _ _ us hl => match us, hl with | [_, _], _ => rfl) (fun vs H Q E ⟨_, _, _, e, _⟩ => by rw [e]; rfl) fun cdv A outer s H vs Q E hr ⟨v, d, n, e, hd, hs, ht, q⟩ => by
  subst e
  refine ⟨_, (pss_one (ps_if (pt_not (pt_val (pe_call f_are_rows.ok (hr.mono (by decide)) rfl f_are_rows.g f_are_rows.kp f_are_rows.b .nil pass0 (pa_cons (pv 0) (pa_cons (pv 1) pa_nil))))) (pss_one ps_never) pss_nil)), ?_⟩
  refine ⟨_, rfl, _, rfl, v, d, n, rfl, hd, hs, fun H' s1 => ⟨_, rfl, ?_⟩⟩
  rw [ht]
  exact q _ s1
end
end Kz
end
section
set_option Elab.async false
set_option linter.all false
set_option maxRecDepth 100000
set_option maxHeartbeats 4000000
/-! sparse rows and heads, as dicts -/
namespace Kz
open PySem PySem.Spec PyProof.Rows L2
theorem nodup_len {α : Type} [DecidableEq α] : ∀ {xs ys : List α}, xs.Nodup → (∀ x ∈ xs, x ∈ ys) → xs.length ≤ ys.length
  | [], _, _, _ => Nat.zero_le _
  | x :: xs, ys, nd, h => by
    have hx := h x List.mem_cons_self
    have nd' := List.nodup_cons.mp nd
    have ih := nodup_len (ys := ys.erase x) nd'.2 fun y hy => (List.mem_erase_of_ne (fun e => nd'.1 (by rw [← e]; exact hy))).mpr (h y (List.mem_cons_of_mem _ hy))
    rw [List.length_erase_of_mem hx] at ih
    have := List.length_pos_of_mem hx
    rw [List.length_cons]
    omega
abbrev kN (k : Nat) : Key := .inl (k : Int)
theorem kN_inj {a b : Nat} (h : kN a = kN b) : a = b := by
  have := Sum.inl.inj h
  omega
/-- the entries kvs tell the row f -/
structure SpK (kvs : List (Key × V)) (f : Nat → Int) : Prop where
  nd : (kvs.map (·.1)).Nodup
  key : ∀ kv ∈ kvs, ∃ k : Nat, kv = (kN k, .int (f k)) ∧ f k ≠ 0
  all : ∀ k, f k ≠ 0 → kN k ∈ kvs.map (·.1)
theorem SpK.nil {f : Nat → Int} (h : ∀ k, f k = 0) : SpK [] f := ⟨List.nodup_nil, by simp, fun k z => absurd (h k) z⟩
theorem SpK.congr {kvs : List (Key × V)} {f g : Nat → Int} (h : SpK kvs f) (e : ∀ k, f k = g k) : SpK kvs g := by
  have : f = g := funext e
  rw [← this]
  exact h
theorem valV_none {kvs : List (Key × V)} {k : Key} (h : k ∉ kvs.map (·.1)) : valV kvs k = none := by
  cases e : valV kvs k with
  | none => rfl
  | some v => exact absurd (valV_in e) h
theorem SpK.mem {kvs : List (Key × V)} {f : Nat → Int} (h : SpK kvs f) {k : Nat} (z : f k ≠ 0) : (kN k, V.int (f k)) ∈ kvs := by
  obtain ⟨kv, hm, e⟩ := List.mem_map.mp (h.all k z)
  obtain ⟨j, e2, _⟩ := h.key kv hm
  rw [e2] at e hm
  have : j = k := kN_inj e
  rw [this] at hm
  exact hm
theorem SpK.val {kvs : List (Key × V)} {f : Nat → Int} (h : SpK kvs f) (k : Nat) : valV kvs (kN k) = if f k = 0 then none else some (.int (f k)) := by
  by_cases z : f k = 0
  · rw [if_pos z]
    refine valV_none fun m => ?_
    obtain ⟨kv, hm, e⟩ := List.mem_map.mp m
    obtain ⟨j, e2, nz⟩ := h.key kv hm
    rw [e2] at e
    rw [kN_inj e] at nz
    exact nz z
  · rw [if_neg z]
    exact val_nodup h.nd _ (h.mem z)
theorem SpK.val_no {kvs : List (Key × V)} {f : Nat → Int} (h : SpK kvs f) {k : Nat} (z : f k = 0) : valV kvs (kN k) = none := by rw [h.val, if_pos z]
theorem SpK.val_is {kvs : List (Key × V)} {f : Nat → Int} (h : SpK kvs f) {k : Nat} (z : f k ≠ 0) : valV kvs (kN k) = some (.int (f k)) := by rw [h.val, if_neg z]
theorem SpK.put {kvs : List (Key × V)} {f : Nat → Int} (h : SpK kvs f) {k : Nat} {z : Int} (hz : z ≠ 0) (h0 : f k = 0) : SpK (putK kvs (kN k) (.int z)) (fun j => if j = k then z else f j) := by
  rw [putK_new _ (h.val_no h0)]
  refine ⟨?_, fun kv hm => ?_, fun j hj => ?_⟩
  · rw [List.map_append, List.nodup_append]
    refine ⟨h.nd, by simp, fun a ha b hb e => ?_⟩
    have hb : b = kN k := by simpa using hb
    rw [e, hb] at ha
    have := h.val_no h0
    exact valV_not this ha
  · rcases List.mem_append.mp hm with hm | hm
    · obtain ⟨j, e, nz⟩ := h.key kv hm
      refine ⟨j, ?_⟩
      have : j ≠ k := fun q => nz (q ▸ h0)
      rw [if_neg this]
      exact ⟨e, nz⟩
    · have : kv = (kN k, .int z) := by simpa using hm
      refine ⟨k, ?_⟩
      rw [if_pos rfl]
      exact ⟨this, hz⟩
  · by_cases e : j = k
    · rw [e]
      simp
    · rw [if_neg e] at hj
      rw [List.map_append]
      exact List.mem_append_left _ (h.all j hj)
theorem SpK.drop {kvs : List (Key × V)} {f : Nat → Int} (h : SpK kvs f) (k : Nat) : SpK (dropK kvs (kN k)) (fun j => if j = k then 0 else f j) := by
  refine ⟨nd_dropK h.nd, fun kv hm => ?_, fun j hj => ?_⟩
  · have hm' := List.mem_filter.mp hm
    obtain ⟨j, e, nz⟩ := h.key kv hm'.1
    have : j ≠ k := fun q => by
      have := of_decide_eq_true hm'.2
      rw [e, q] at this
      exact this rfl
    refine ⟨j, ?_⟩
    rw [if_neg this]
    exact ⟨e, nz⟩
  · by_cases e : j = k
    · rw [if_pos e] at hj
      exact absurd rfl hj
    · rw [if_neg e] at hj
      refine List.mem_map.mpr ⟨_, List.mem_filter.mpr ⟨h.mem hj, ?_⟩, rfl⟩
      exact decide_eq_true fun q => e (kN_inj q)
theorem SpK.len {kvs : List (Key × V)} {f : Nat → Int} (h : SpK kvs f) {l : List Nat} (hl : ∀ k, f k ≠ 0 → k ∈ l) : kvs.length ≤ l.length := by
  have := nodup_len (ys := l.map kN) h.nd fun x hx => by
    obtain ⟨kv, hm, e⟩ := List.mem_map.mp hx
    obtain ⟨k, e2, nz⟩ := h.key kv hm
    rw [e2] at e
    rw [← e]
    exact List.mem_map.mpr ⟨k, hl k nz, rfl⟩
  rw [List.length_map, List.length_map] at this
  exact this
/-- the dict at d tells the row f -/
def SpR (H : Hp) (d : Addr) (f : Nat → Int) : Prop := ∃ kvs, H d = some (.dK kvs) ∧ SpK kvs f
theorem SpR.mono {H H' : Hp} {d : Addr} {f : Nat → Int} (s : Same H H') (h : SpR H d f) : SpR H' d f := by
  obtain ⟨kvs, e, k⟩ := h
  exact ⟨kvs, s _ _ e, k⟩
theorem SpR.ne {H : Hp} {d D : Addr} {f : Nat → Int} {o : HO} (h : SpR H d f) (e : H D = none) : d ≠ D := by
  obtain ⟨kvs, e2, _⟩ := h
  exact ne_of_none e2 e
theorem SpR.upd {H : Hp} {d D : Addr} {f : Nat → Int} {o : HO} (h : SpR H d f) (ne : d ≠ D) : SpR (upd H D o) d f := by
  obtain ⟨kvs, e, k⟩ := h
  exact ⟨kvs, by rw [upd_ne ne]; exact e, k⟩
theorem paired_atR {α β : Type} {F : α → β → Prop} : ∀ {l : List α} {m : List β} {i : Nat} {b : β}, Paired F l m → m[i]? = some b → ∃ a, l[i]? = some a ∧ F a b := paired_at
open KzM in
/-- heads in a dict at D -/
def HdK (H : Hp) (D : Addr) : List (Key × V) → List Head → Prop := Paired fun kv h => kv.1 = kN h.1 ∧ ∃ a, kv.2 = .ref a ∧ a ≠ D ∧ SpR H a h.2
open KzM in
def HdR (H : Hp) (D : Addr) (L : List Head) : Prop := ∃ kvs, H D = some (.dK kvs) ∧ HdK H D kvs L
section
open KzM
variable {H H' : Hp} {D : Addr}
theorem HdK.mono {kvs : List (Key × V)} {L : List Head} (s : But D H H') (h : HdK H D kvs L) : HdK H' D kvs L :=
  paired_imp h fun kv hd ⟨e, a, e2, ne, kvs', e3, k⟩ => ⟨e, a, e2, ne, kvs', s _ _ ne e3, k⟩
theorem HdR.mono {L : List Head} (s : Same H H') (h : HdR H D L) : HdR H' D L := by
  obtain ⟨kvs, e, k⟩ := h
  exact ⟨kvs, s _ _ e, k.mono (Same.but D s)⟩
theorem HdK.keys {kvs : List (Key × V)} {L : List Head} (h : HdK H D kvs L) : kvs.map (·.1) = L.map fun h => kN h.1 := by
  induction h with
  | nil => rfl
  | cons r t ih => rw [List.map_cons, List.map_cons, r.1, ih]
theorem HdK.val_is {kvs : List (Key × V)} {L : List Head} (h : HdK H D kvs L) (nd : (L.map (·.1)).Nodup) {hd : Head} (hm : hd ∈ L) : ∃ a, valV kvs (kN hd.1) = some (.ref a) ∧ a ≠ D ∧ SpR H a hd.2 := by
  obtain ⟨i, hi, ei⟩ := List.getElem_of_mem hm
  obtain ⟨kv, e1, e2, a, e3, ne, sp⟩ := paired_atR h (List.getElem?_eq_getElem hi)
  rw [ei] at e2 sp
  have nd' : (kvs.map (·.1)).Nodup := by
    rw [h.keys]
    have : (L.map fun h => kN h.1) = (L.map (·.1)).map kN := by rw [List.map_map]; rfl
    rw [this]
    exact List.Pairwise.map kN (fun a b h q => h (kN_inj q)) nd
  refine ⟨a, ?_, ne, sp⟩
  have := val_nodup nd' kv (List.mem_of_getElem? e1)
  rw [e2, e3] at this
  exact this
theorem HdK.val_no {kvs : List (Key × V)} {L : List Head} (h : HdK H D kvs L) {s : Nat} (hs : s ∉ L.map (·.1)) : valV kvs (kN s) = none := by
  refine valV_none fun m => ?_
  rw [h.keys] at m
  obtain ⟨hd, hm, e⟩ := List.mem_map.mp m
  exact hs (List.mem_map.mpr ⟨hd, hm, kN_inj e⟩)
end
/-! ### a dict of pairs -/
theorem mergeK_new : ∀ {kvs acc : List (Key × V)}, ((acc ++ kvs).map (·.1)).Nodup → mergeK acc kvs = acc ++ kvs
  | [], acc, _ => by rw [List.append_nil]; rfl
  | kv :: kvs, acc, nd => by
    have h : valV acc kv.1 = none := by
      refine valV_none fun m => ?_
      rw [List.map_append, List.map_cons, List.nodup_append] at nd
      exact nd.2.2 _ m _ List.mem_cons_self rfl
    show mergeK (putK acc kv.1 kv.2) kvs = _
    rw [putK_new _ h, mergeK_new (by rw [List.append_assoc]; exact nd), List.append_assoc]
    rfl
theorem pairs_dict {K : PySem.W.Frag} {H : Hp} {f : Nat → Int} {D : Addr} : ∀ {ks : List Nat} {ys : List V}, ks.Nodup → (∀ k ∈ ks, f k ≠ 0) → Paired (fun k y => ∃ T, y = V.ref T ∧ T ≠ D ∧ H T = some (.tup [.int (k : Nat), .int (f k)])) ks ys →
    ∃ ps : List Addr, ys = ps.map V.ref ∧ Paired (fun p kv => SqT K H p [kV kv.1, kv.2]) ps (ks.map fun k => (kN k, V.int (f k)))
  | _, _, _, _, .nil => ⟨[], rfl, .nil⟩
  | _, _, nd, nz, .cons ⟨T, e, _, h⟩ t => by
    obtain ⟨ps, e2, r⟩ := pairs_dict (K := K) (List.nodup_cons.mp nd).2 (fun k hk => nz k (List.mem_cons_of_mem _ hk)) t
    exact ⟨T :: ps, by rw [e, e2]; rfl, .cons (SqT.of h) r⟩
theorem pairs_spk {f : Nat → Int} {ks : List Nat} (nd : ks.Nodup) (nz : ∀ k ∈ ks, f k ≠ 0) (all : ∀ k, f k ≠ 0 → k ∈ ks) : SpK (mergeK [] (ks.map fun k => (kN k, V.int (f k)))) f := by
  have e : (ks.map fun k => (kN k, V.int (f k))).map (·.1) = ks.map kN := by rw [List.map_map]; rfl
  have nd' : (ks.map kN).Nodup := List.Pairwise.map kN (fun a b h q => h (kN_inj q)) nd
  rw [mergeK_new (by rw [List.nil_append, e]; exact nd'), List.nil_append]
  refine ⟨by rw [e]; exact nd', fun kv hm => ?_, fun k hk => ?_⟩
  · obtain ⟨k, hk, e2⟩ := List.mem_map.mp hm
    exact ⟨k, e2.symm, nz k hk⟩
  · rw [e]
    exact List.mem_map.mpr ⟨k, all k hk, rfl⟩
theorem len_pairs {f : Nat → Int} (ks : List Nat) : (ks.map fun k => (kN k, V.int (f k))).length = ks.length := List.length_map ..
theorem pop2_both {kvs : List (Key × V)} {f : Nat → Int} (sp : SpK kvs f) (k : Nat) {H : Hp} {a : Addr} {R : V → Hp → Prop} (hH : H a = some (.dK kvs))
    (h : ∀ H2 kvs', (∀ b o, b ≠ a → H b = some o → H2 b = some o) → H2 a = some (.dK kvs') → SpK kvs' (fun j => if j = k then 0 else f j) → R (.int (f k)) H2) :
    (∀ v, valV kvs (kN k) = some v → R v (upd H a (.dK (dropK kvs (kN k))))) ∧ (valV kvs (kN k) = none → R (.int 0) H) := by
  constructor
  · intro v hv
    rw [sp.val] at hv
    by_cases z : f k = 0
    · rw [if_pos z] at hv
      cases hv
    · rw [if_neg z] at hv
      cases hv
      exact h _ _ (fun b o nb e => by rw [upd_ne nb]; exact e) upd_same (sp.drop k)
  · intro hv
    rw [sp.val] at hv
    by_cases z : f k = 0
    · have := h H kvs (fun b o _ e => e) hH (sp.congr fun j => by
        by_cases q : j = k
        · rw [if_pos q, q]
          exact z
        · rw [if_neg q])
      rw [z] at this
      exact this
    · rw [if_neg z] at hv
      cases hv
theorem dpop2_sp {td ty tx : TE} {σ : L2.St} {H : Hp} {Q : VK} {a : Addr} {k : Nat} {kvs : List (Key × V)} {f : Nat → Int} (htd : ∀ R : VK, R (.ref a) H → td σ H R) (hty : ∀ R : VK, R (.int (k : Nat)) H → ty σ H R) (htx : ∀ R : VK, R (.int 0) H → tx σ H R)
    (hH : H a = some (.dK kvs)) (sp : SpK kvs f) (h : ∀ H2 kvs', (∀ b o, b ≠ a → H b = some o → H2 b = some o) → H2 a = some (.dK kvs') → SpK kvs' (fun j => if j = k then 0 else f j) → Q (.int (f k)) H2) : tDPop2 td ty tx σ H Q :=
  htd _ ⟨a, rfl, .inl ⟨kvs, .inl hH⟩, hty _ (htx _ ⟨kvs, kN k, hH, rfl, pop2_both (R := Q) sp k hH h⟩)⟩
/-- the keys of the first i entries -/
def keyI : Key × V → Option Int := fun kv => match kv.1 with
  | .inl z => some z
  | .inr _ => none
def keysTo (ko : List (Key × V)) (i : Nat) : List Int := (ko.take i).filterMap keyI
theorem keysTo_succ {ko : List (Key × V)} {i k : Nat} {v : V} (h : ko[i]? = some (kN k, v)) : keysTo ko (i + 1) = keysTo ko i ++ [(k : Int)] := by
  unfold keysTo
  rw [List.take_add_one, h, List.filterMap_append]
  rfl
theorem keysTo_mem {ko : List (Key × V)} {i : Nat} {z : Int} (h : z ∈ keysTo ko i) : ∃ (j : Nat) (v : V), j < i ∧ ko[j]? = some (.inl z, v) := by
  obtain ⟨kv, hm, e⟩ := List.mem_filterMap.mp h
  obtain ⟨j, hj, ej⟩ := List.getElem_of_mem hm
  have hj2 : j < i := by
    rw [List.length_take] at hj
    omega
  have e1 := List.getElem?_eq_getElem hj
  rw [ej, List.getElem?_take, if_pos hj2] at e1
  obtain ⟨k, v⟩ := kv
  cases k with
  | inl y =>
    have : y = z := Option.some.inj e
    rw [this] at e1
    exact ⟨j, v, hj2, e1⟩
  | inr y => cases e
theorem keysTo_not {ko : List (Key × V)} {i k : Nat} {v : V} (nd : (ko.map (·.1)).Nodup) (h : ko[i]? = some (kN k, v)) : (k : Int) ∉ keysTo ko i := by
  intro m
  obtain ⟨j, u, hj, ej⟩ := keysTo_mem m
  have e1 : (ko.map (·.1))[j]? = some (kN k) := by rw [List.getElem?_map, ej]; rfl
  have e2 : (ko.map (·.1))[i]? = some (kN k) := by rw [List.getElem?_map, h]; rfl
  have := nodup_at nd e1 e2
  omega
theorem keysTo_all {ko : List (Key × V)} {f : Nat → Int} (sp : SpK ko f) (k : Nat) : (k : Int) ∈ keysTo ko ko.length ↔ f k ≠ 0 := by
  unfold keysTo
  rw [List.take_length]
  constructor
  · intro h
    obtain ⟨kv, hm, e⟩ := List.mem_filterMap.mp h
    obtain ⟨j, e2, nz⟩ := sp.key kv hm
    rw [e2] at e
    have : ((j : Nat) : Int) = k := Option.some.inj e
    have : j = k := by omega
    rw [← this]
    exact nz
  · intro h
    exact List.mem_filterMap.mpr ⟨_, sp.mem h, rfl⟩
theorem keysI {ko : List (Key × V)} {f : Nat → Int} (sp : SpK ko f) : ko.map (·.1) = (keysTo ko ko.length).map Sum.inl := by
  have : ∀ l : List (Key × V), (∀ kv ∈ l, ∃ k : Nat, kv = (kN k, V.int (f k)) ∧ f k ≠ 0) → l.map (·.1) = (l.filterMap keyI).map Sum.inl := fun l => by
    induction l with
    | nil => intro _; rfl
    | cons kv l ih =>
      intro h
      obtain ⟨k, e, _⟩ := h kv List.mem_cons_self
      rw [List.map_cons, List.filterMap_cons, e]
      show kN k :: l.map (·.1) = Sum.inl (k : Int) :: _
      rw [ih fun x hx => h x (List.mem_cons_of_mem _ hx)]
  unfold keysTo
  rw [List.take_length]
  exact this ko sp.key
theorem keysI_len {ko : List (Key × V)} {f : Nat → Int} (sp : SpK ko f) : (keysTo ko ko.length).length = ko.length := by
  have := congrArg List.length (keysI sp)
  rw [List.length_map, List.length_map] at this
  exact this.symm
section
open KzM
theorem map_none {kvs : List (Key × V)} {k : Key} {v : V} (h : k ∉ kvs.map (·.1)) : (kvs.map fun kv => if kv.1 = k then (kv.1, v) else kv) = kvs := by
  induction kvs with
  | nil => rfl
  | cons kv r ih =>
    rw [List.map_cons, ih fun m => h (List.mem_cons_of_mem _ m), if_neg fun e => h (by rw [← e]; exact List.mem_cons_self)]
theorem hdk_map {H H' : Hp} {D : Addr} (fr : ∀ b o, b ≠ D → H b = some o → H' b = some o) {a : Addr} {f : Nat → Int} (na : a ≠ D) (sp : SpR H' a f) : ∀ {kvs : List (Key × V)} {L : List Head} {i : Nat} {hd : Head}, HdK H D kvs L → (L.map (·.1)).Nodup → L[i]? = some hd →
    HdK H' D (kvs.map fun kv => if kv.1 = kN hd.1 then (kv.1, .ref a) else kv) (L.set i (hd.1, f))
  | _, _, _, _, .nil, _, e => by simp at e
  | _, _, 0, hd, .cons (a := kv) (b := h0) (l₁ := kvs) (l₂ := L) r t, nd, e => by
    have e : h0 = hd := by simpa using e
    subst e
    have nd' := List.nodup_cons.mp nd
    have no : kN h0.1 ∉ kvs.map (·.1) := fun m => by
      have t : HdK H D kvs L := t
      rw [t.keys] at m
      obtain ⟨g, mg, eg⟩ := List.mem_map.mp m
      exact nd'.1 (List.mem_map.mpr ⟨g, mg, kN_inj eg⟩)
    rw [List.map_cons, map_none no, if_pos r.1]
    exact .cons ⟨r.1, a, rfl, na, sp⟩ (HdK.mono (H := H) fr t)
  | _, _, i + 1, hd, .cons (a := kv) (b := h0) (l₁ := kvs) (l₂ := L) r t, nd, e => by
    have e : L[i]? = some hd := by simpa using e
    have nd' := List.nodup_cons.mp nd
    have ne : ¬ kv.1 = kN hd.1 := fun q => by
      rw [r.1] at q
      exact nd'.1 (List.mem_map.mpr ⟨hd, List.mem_of_getElem? e, (kN_inj q).symm⟩)
    rw [List.map_cons, if_neg ne]
    obtain ⟨e1, b, e2, nb, kvs', e3, k⟩ := r
    exact .cons ⟨e1, b, e2, nb, kvs', fr _ _ nb e3, k⟩ (hdk_map fr na sp t nd'.2 e)
theorem HdK.put {H H' : Hp} {D : Addr} {kvs : List (Key × V)} {L : List Head} (h : HdK H D kvs L) (nd : (L.map (·.1)).Nodup) {i : Nat} {hd : Head} (hi : L[i]? = some hd) (fr : ∀ b o, b ≠ D → H b = some o → H' b = some o) {a : Addr} {f : Nat → Int} (na : a ≠ D) (sp : SpR H' a f) :
    HdK H' D (putK kvs (kN hd.1) (.ref a)) (L.set i (hd.1, f)) := by
  have e : putK kvs (kN hd.1) (.ref a) = kvs.map fun kv => if kv.1 = kN hd.1 then (kv.1, .ref a) else kv := by
    unfold putK
    rw [valV_any]
    obtain ⟨b, e, _⟩ := h.val_is nd (List.mem_of_getElem? hi)
    rw [e]
    rfl
  rw [e]
  exact hdk_map fr na sp h nd hi
theorem HdK.snoc {H H' : Hp} {D : Addr} {kvs : List (Key × V)} {L : List Head} (h : HdK H D kvs L) {s : Nat} (hs : s ∉ L.map (·.1)) (fr : ∀ b o, b ≠ D → H b = some o → H' b = some o) {a : Addr} {f : Nat → Int} (na : a ≠ D) (sp : SpR H' a f) :
    HdK H' D (putK kvs (kN s) (.ref a)) (L ++ [(s, f)]) := by
  rw [putK_new _ (h.val_no hs)]
  exact paired_app (HdK.mono (H := H) fr h) ⟨rfl, a, rfl, na, sp⟩
theorem HdK.len {H : Hp} {D : Addr} {kvs : List (Key × V)} {L : List Head} (h : HdK H D kvs L) : kvs.length = L.length := paired_len h
end
end Kz
end
section
set_option Elab.async false
set_option linter.all false
set_option maxRecDepth 100000
set_option maxHeartbeats 4000000
/-! equality of lists and dicts -/
namespace Kz
open PySem PySem.Spec PyProof.Rows L2
section
variable {X : Cx}
/-- d != {} -/
def rNeE : R2 := fun x y H Q => ∃ a b ks, x = .ref a ∧ y = .ref b ∧ H a = some (.dK ks) ∧ H b = some (.dK []) ∧ Q (.bl (!ks.isEmpty)) H
theorem op_neE (hu : X.A.units < cLine) : OpR X (compareOp .NotEq) rNeE := by
  intro pins s σ H x y v u Q I rx ry h
  obtain ⟨a, b, ks, rfl, rfl, ea, eb, q⟩ := h
  obtain rfl : v = Value.ref a := rx
  obtain rfl : u = Value.ref b := ry
  obtain ⟨_, ya, va, ra, da⟩ := (show ObjOk X.prog X.w H s.heap a (.dK ks) from I.hok a _ ea)
  obtain ⟨_, yb, vb, rb, db⟩ := (show ObjOk X.prog X.w H s.heap b (.dK []) from I.hok b _ eb)
  have la := ra.length
  have lb := rb.length
  rw [List.length_nil] at lb
  refine PySem.W.keq_ne (knd := mixKind X.prog X.w) (r := true) ya yb da db hu (fun e => hits_all rb ra fun p hp => ?_) (fin_bl I q ?_)
  · rw [← la, ← lb] at e
    have : ks = [] := List.eq_nil_of_length_eq_zero e
    rw [this] at hp
    exact absurd hp (List.not_mem_nil)
  · rw [← la, ← lb, Bool.and_true]
    cases ks <;> rfl
end
theorem hu_lt {A : Around} {k : Nat} (hr : Room k A) : A.units < cLine := Nat.lt_of_succ_lt (hu_of hr)
/-! ### data of lists of numbers -/
abbrev dInts (ns : List Int) : List PyData := ns.map PyData.int
theorem dp_allI {K : PySem.W.Frag} {H : Hp} : ∀ ns : List Int, DpAll K H (ns.map V.int) (dInts ns)
  | [] => .nil
  | n :: ns => .cons (.int n) (dp_allI ns)
theorem dp_ints {K : PySem.W.Frag} {H : Hp} {a : Addr} {ns : List Int} (h : SqL K H a (ns.map V.int)) : Dp K H (.ref a) (.list (dInts ns)) := .lst h (dp_allI ns)
theorem dp_tupI {K : PySem.W.Frag} {H : Hp} {a : Addr} {ns : List Int} (h : SqT K H a (ns.map V.int)) : Dp K H (.ref a) (.tuple (dInts ns)) := .tup h (dp_allI ns)
theorem lay_ints : ∀ ns : List Int, PyData.canLayAll0 (dInts ns) = true
  | [] => rfl
  | n :: ns => by
    show (PyData.canLay0 (.int n) && PyData.canLayAll0 (dInts ns)) = true
    rw [lay_ints ns]
    rfl
theorem depth_ints : ∀ ns : List Int, PyData.depthAll (dInts ns) = 0
  | [] => rfl
  | n :: ns => by
    show max 0 (PyData.depthAll (dInts ns)) = 0
    rw [depth_ints ns]
    rfl
theorem sh_ints (ns : List Int) : SeqAt.shaped (.list (dInts ns)) = true := by
  show (PyData.canLayAll0 (dInts ns) && decide (PyData.depthAll (dInts ns) + 1 ≤ 64)) = true
  rw [lay_ints, depth_ints]
  rfl
theorem sh_tupI (ns : List Int) : SeqAt.shaped (.tuple (dInts ns)) = true := by
  show (PyData.canLayAll0 (dInts ns) && decide (PyData.depthAll (dInts ns) + 1 ≤ 64)) = true
  rw [lay_ints, depth_ints]
  rfl
theorem eqv_ints : ∀ ns ms : List Int, PyData.eqvAll (dInts ns) (dInts ms) = decide (ns = ms)
  | [], [] => rfl
  | [], _ :: _ => rfl
  | _ :: _, [] => rfl
  | n :: ns, m :: ms => by
    show ((n == m) && PyData.eqvAll (dInts ns) (dInts ms)) = _
    rw [eqv_ints ns ms]
    by_cases e : n = m
    · subst e
      by_cases e2 : ns = ms
      · simp [e2]
      · simp [e2]
    · simp [e]
/-- ns != [] -/
theorem ne_nilI {K : PySem.W.Frag} {H : Hp} {a b : Addr} {ns : List Int} {Q : VK} (h : SqL K H a (ns.map V.int)) (h0 : SqL K H b []) (q : Q (.bl (!decide (ns = []))) H) : rNeD K (.ref a) (.ref b) H Q := by
  refine ⟨_, _, dp_ints h, dp_ints (ns := []) h0, sh_ints _, sh_ints _, ?_⟩
  have : PyData.eqv (.list (dInts ns)) (.list (dInts [])) = decide (ns = []) := eqv_ints ns []
  rw [this]
  exact q
theorem ne_lists {K : PySem.W.Frag} {H : Hp} {a b : Addr} {ns ms : List Int} {Q : VK} (h : SqL K H a (ns.map V.int)) (h0 : SqL K H b (ms.map V.int)) (q : Q (.bl (!decide (ns = ms))) H) : rNeD K (.ref a) (.ref b) H Q := by
  refine ⟨_, _, dp_ints h, dp_ints h0, sh_ints _, sh_ints _, ?_⟩
  have : PyData.eqv (.list (dInts ns)) (.list (dInts ms)) = decide (ns = ms) := eqv_ints ns ms
  rw [this]
  exact q
end Kz
end
section
set_option Elab.async false
set_option linter.all false
set_option maxRecDepth 100000
set_option maxHeartbeats 4000000
/-! len(set(xs)): of numbers, of tuples of numbers; repeats or none -/
namespace Kz
open PySem PySem.Spec PyProof.Rows L2
theorem nodup_of_len {α : Type} [DecidableEq α] : ∀ {ys xs : List α}, xs.Nodup → (∀ x ∈ xs, x ∈ ys) → ys.length ≤ xs.length → ys.Nodup
  | [], _, _, _, _ => List.nodup_nil
  | y :: ys, xs, nd, sub, len => by
    have no : y ∉ ys := fun m => by
      have := nodup_len (ys := ys) nd fun x hx => by
        rcases List.mem_cons.mp (sub x hx) with e | m2
        · rw [e]; exact m
        · exact m2
      rw [List.length_cons] at len
      omega
    refine List.nodup_cons.mpr ⟨no, nodup_of_len (xs := xs.erase y) (nd.erase y) (fun x hx => ?_) ?_⟩
    · have hx2 := List.mem_of_mem_erase hx
      rcases List.mem_cons.mp (sub x hx2) with e | m2
      · subst e
        exact absurd hx (List.Nodup.not_mem_erase nd)
      · exact m2
    · have := List.length_erase_of_mem (l := xs) (a := y)
      by_cases m : y ∈ xs
      · rw [this m]
        rw [List.length_cons] at len
        omega
      · rw [List.erase_of_not_mem m]
        rw [List.length_cons] at len
        omega
/-- how many there are once each is taken once -/
theorem card_iff {α : Type} [DecidableEq α] {us xs : List α} (nd : us.Nodup) (h1 : ∀ x ∈ us, x ∈ xs) (h2 : ∀ x ∈ xs, x ∈ us) : us.length = xs.length ↔ xs.Nodup := by
  constructor
  · intro e
    exact nodup_of_len nd h1 (by omega)
  · intro n
    have a := nodup_len nd h1
    have b := nodup_len n h2
    omega
theorem first_dedup (ns : List Int) : ∀ i, i ≤ ns.length → (firstMet (fun i => ns.getD i 0) i).Nodup ∧ ∀ x, x ∈ firstMet (fun i => ns.getD i 0) i ↔ x ∈ ns.take i
  | 0, _ => ⟨List.nodup_nil, fun x => by simp [firstMet]⟩
  | i + 1, hi => by
    obtain ⟨n1, m1⟩ := first_dedup ns i (by omega)
    have hlt : i < ns.length := hi
    have e : ns.getD i 0 = ns[i] := by rw [List.getD_eq_getElem?_getD, List.getElem?_eq_getElem hlt] <;> rfl
    rw [firstMet_succ, e, List.take_succ, List.getElem?_eq_getElem hlt]
    unfold step_dedup
    by_cases h : (firstMet (fun i => ns.getD i 0) i).any (· == ns[i]) = true
    · rw [if_pos h]
      refine ⟨n1, fun x => ?_⟩
      rw [m1, List.mem_append]
      constructor
      · exact .inl
      · rintro (q | q)
        · exact q
        · obtain ⟨y, hy, e2⟩ := List.any_eq_true.mp h
          have : x = ns[i] := by simpa using q
          rw [this, ← beq_iff_eq.mp e2]
          exact (m1 y).mp hy
    · rw [if_neg h]
      refine ⟨?_, fun x => ?_⟩
      · rw [List.nodup_append]
        refine ⟨n1, by simp, fun a ha b hb q => h ?_⟩
        have : b = ns[i] := by simpa using hb
        exact List.any_eq_true.mpr ⟨a, ha, by rw [q, this]; exact beq_self_eq_true _⟩
      · rw [List.mem_append, List.mem_append, m1]
        simp
theorem ints_vals : ∀ {ns : List Int} {us : List Value}, Vals (ns.map V.int) us → PyProof.Rows.IntsAre us ns
  | [], _, .nil => .nil
  | n :: ns, _, .cons r t => by
    obtain ⟨k, rfl⟩ := r
    exact .cons n k (ints_vals t)
section
variable {X : Cx}
/-- len(set(xs)), xs a list or a tuple of numbers -/
def tLenSetX (K : PySem.W.Frag) (ta : TE) : TE := fun σ H Q => ta σ H fun x H1 => ∃ (l : Addr) (ns : List Int), x = V.ref l ∧ SqX K H1 l (ns.map V.int) ∧ ns.length < 64 ∧ ∀ m : Nat, (m = ns.length ↔ ns.Nodup) → Q (.int m) H1
theorem pe_lenSetX {a : Expr} {ta : TE} {p p2 q pos : Pos} (hc : X.calm = true) (hg : Gl X "len") (hm : X.mg "len" = none) (hg2 : Gl X "set") (hm2 : X.mg "set" = none) (ha : PE X a ta)
    (na : starEach [a] X.env = (false, eval a X.env) :: starEach [] X.env := by rfl) : PE X (.Call (.Name "len" p) [.Call (.Name "set" p2) [a] [] q] [] pos) (tLenSetX X.K ta) := by
  refine ⟨fun pins s σ H Q I h => ?_⟩
  refine Call_ (ld_blt I hg hm PySem.boot_len ?_)
  refine PyProof.Rows.callWith_builtin1 (PyProof.Rows.args_cons ?_ rfl) rfl rfl
  refine Call_ (ld_blt I hg2 hm2 PyProof.Rows.boot_set ?_)
  refine PyProof.Rows.callWith_type1 (PyProof.Rows.args_cons (thn (ha.run pins s σ H _ I h) fun v s1 ⟨x, H1, I1, r1, q1⟩ => PyProof.Rows.args_nil ?_) na) na rfl
  obtain ⟨l, ns, rfl, hq, h1, q1⟩ := q1
  cases r1
  rcases hq with hq | hq
  · obtain ⟨its, r, pl, hz⟩ := I1.list hq
    have hl : its.toArray.size = ns.length := by rw [List.size_toArray, ← r.length, List.length_map]
    refine call_set_list (I1.ok.hd hc) pl.isList (ns := ns) (by simpa using r.ints) (by unfold scanBound; omega) fun h' tk hS hk => ?_
    obtain ⟨nd, mem⟩ := first_dedup ns ns.length (Nat.le_refl _)
    rw [List.take_length] at mem
    rw [hl] at hS
    refine PyProof.Rows.args_nil ?_
    obtain ⟨o, es, ep, t, ho, hex, hd, _, _, _, hf, hn⟩ := hS
    have I2 : Inv X pins σ H1 { s1 with heap := h', toks := tk } := I1.kept fun b o e => hk b o (Heap.lt_size e) e
    have le := firstMet_length_le (fun i => ns.getD i 0) ns.length
    exact call_len_set ho hex hd hf (by rw [hn] <;> omega) ⟨.int es.size, H1, I2.tok _, ⟨_, rfl⟩, q1 _ (by rw [hn]; exact card_iff nd (fun x hx => (mem x).mp hx) fun x hx => (mem x).mpr hx)⟩
  · obtain ⟨its, r, pl, hz⟩ := I1.tuple hq
    refine call_set_tupI ns (I1.ok.hd hc) pl (by simpa using ints_vals r) (by unfold scanBound; omega) fun h' tk c hS hcl hk => ?_
    refine PyProof.Rows.args_nil ?_
    obtain ⟨o, es, ep, t, ho, hex, hd, _, knd, kmem, hsb, hf, hn, _⟩ := hS
    have I2 : Inv X pins σ H1 { s1 with heap := h', toks := tk } := I1.kept fun b o e => hk b o e
    have lk : (es.toList.map keyOf).length = es.size := by rw [List.length_map, Array.length_toList]
    have ci := card_iff knd (xs := ns) (fun x hx => of_decide_eq_true ((kmem x).mpr hx)) fun x hx => (kmem x).mp (decide_eq_true hx)
    rw [lk] at ci
    exact call_len_set ho hex hd hf (by omega) ⟨.int es.size, H1, I2.tok _, ⟨_, rfl⟩, q1 _ ci⟩
/-- len(set(xs)), xs a list of tuples of numbers -/
def tLenSetT (K : PySem.W.Frag) (ta : TE) : TE := fun σ H Q => ta σ H fun x H1 => ∃ (l : Addr) (ks : List (Addr × List Int)), x = V.ref l ∧ SqL K H1 l (ks.map fun p => V.ref p.1) ∧ (∀ p ∈ ks, SqT K H1 p.1 (p.2.map V.int)) ∧ ks.length < 64 ∧ ∀ m : Nat, (m = ks.length ↔ (ks.map (·.2)).Nodup) → Q (.int m) H1
theorem pe_lenSetT {a : Expr} {ta : TE} {p p2 q pos : Pos} (hc : X.calm = true) (hu : X.A.units + 64 < cLine) (hg : Gl X "len") (hm : X.mg "len" = none) (hg2 : Gl X "set") (hm2 : X.mg "set" = none) (ha : PE X a ta)
    (na : starEach [a] X.env = (false, eval a X.env) :: starEach [] X.env := by rfl) : PE X (.Call (.Name "len" p) [.Call (.Name "set" p2) [a] [] q] [] pos) (tLenSetT X.K ta) := by
  refine ⟨fun pins s σ H Q I h => ?_⟩
  refine Call_ (ld_blt I hg hm PySem.boot_len ?_)
  refine PyProof.Rows.callWith_builtin1 (PyProof.Rows.args_cons ?_ rfl) rfl rfl
  refine Call_ (ld_blt I hg2 hm2 PyProof.Rows.boot_set ?_)
  refine PyProof.Rows.callWith_type1 (PyProof.Rows.args_cons (thn (ha.run pins s σ H _ I h) fun v s1 ⟨x, H1, I1, r1, q1⟩ => PyProof.Rows.args_nil ?_) na) na rfl
  obtain ⟨l, ks, rfl, hq, hk, h1, q1⟩ := q1
  cases r1
  obtain ⟨its, rv, pl, hz⟩ := I1.list hq
  refine call_set_tups (P := X.prog) (w := X.w) ks (I1.ok.hd hc) pl.isList (by simpa using refs_of_vals rv) (fun p hp => I1.isT (hk p hp)) h1 (by omega) fun h' tk L es ep t R g k => ?_
  refine PyProof.Rows.args_nil ?_
  have I2 : Inv X pins σ H1 { s1 with heap := h', toks := tk } := I1.kept fun b o e => k b o e
  obtain ⟨o, ho, hex, hd⟩ := R.ob
  have sz := SetTR.size (s := { s1 with heap := h', toks := tk }) R
  have hf := SetTR.fits (s := { s1 with heap := h', toks := tk }) R
  have few := R.few
  have ci := card_iff R.nd (xs := ks.map (·.2)) (fun x hx => by
    obtain ⟨p, hp, e⟩ := List.mem_map.mp hx
    rw [← e]
    exact List.mem_map.mpr ⟨p, List.mem_of_mem_take (g.sub p hp), rfl⟩) fun x hx => by
    obtain ⟨p, hp, e⟩ := List.mem_map.mp hx
    rw [← e]
    exact g.all p (by rw [List.take_length]; exact hp)
  rw [List.length_map, List.length_map, ← sz] at ci
  exact call_len_set ho hex hd hf (by omega) ⟨.int es.size, H1, I2.tok _, ⟨_, rfl⟩, q1 _ ci⟩
end
end Kz
end
section
set_option Elab.async false
set_option linter.all false
set_option maxRecDepth 100000
set_option maxHeartbeats 4000000
/-! sorted(xs) of tuples of numbers, of any lengths, an empty one first -/
namespace Kz
open PySem PySem.W PySem.Calls PyProof.Rows Builtin
/-- v is a tuple of these numbers -/
def IsTu (h : Heap) (v : Value) (ns : List Int) : Prop := ∃ (a : Addr) (dd : Option Addr) (items : Array Value) (n : Nat) (sl : Array (Option Value)), v = .ref a ∧ h.get? a = some { cls := .type "tuple", dict := dd, data := .seq items n, slots := sl } ∧ IntsAre items.toList ns
theorem IsTu.keeps {h h' : Heap} {v : Value} {ns : List Int} (x : IsTu h v ns) (k : ∀ b o, v = .ref b → h.get? b = some o → h'.get? b = some o) : IsTu h' v ns := by
  obtain ⟨a, dd, items, n, sl, e, g, i⟩ := x
  exact ⟨a, dd, items, n, sl, e, k _ _ e g, i⟩
theorem IsTu.type {M : Model} {h : Heap} {v : Value} {ns : List Int} (x : IsTu h v ns) : Looks M h (typeOf v) (.type "tuple") := by
  obtain ⟨a, dd, items, n, sl, rfl, g, i⟩ := x
  exact (Looks.ld g).andThen .now
section
variable {prog : Program} {w : World} {A : Around} {E : Value → Shared → Prop} {s : Shared}
theorem lt_tu {v u : Value} {ns ms : List Int} {Q : Bool → Shared → Prop} (hu : A.units < cLine) (hv : IsTu s.heap v ns) (hw : IsTu s.heap u ms) (h : Q (HT.lexLt ns ms) s) : wpAny (model prog w) A (keyLt' oneType' v u) Q E s := by
  obtain ⟨a, dd, items, n, sl, rfl, ga, ia⟩ := hv
  obtain ⟨b, dd2, items2, n2, sl2, rfl, gb, ib⟩ := hw
  rw [keyLt'_oneType, oneLt'_eq]
  simp only [if_true]
  refine wpAny_bind (wpAny_cRoomFor hu ?_)
  refine wpAny_bind (wpAny_callSpecialIfBound?_slot ⟨_, ga, rfl⟩ PySem.F.slot_tuple_lt (call_meets PySem.F.slot_tuple_lt ⟨_, ga, rfl⟩ PySem.F.entry_tuple_lt (PySem.F.args_tuple_lt_2 _ _) (HT.tuple_lt_ints a b items items2 n n2 dd dd2 sl sl2 ns ms ia ib) ⟨ga, gb, ?_⟩))
  exact wpAny_truthy_bool h
theorem tu_firsts : ∀ (vs : List Value) {Q : List (Option Value) → Shared → Prop}, (∀ v ∈ vs, ∃ ns, IsTu s.heap v ns) → (∀ fs : List (Option Value), (∀ v r, vs = v :: r → IsTu s.heap v [] → ∃ gs, fs = none :: gs) → Q fs s) → wpAny (model prog w) A (vs.mapM firstOfTuple') Q E s
  | [], _, _, h => by
    rw [List.mapM_nil]
    exact wpAny_pure (h [] fun v r e _ => nomatch e)
  | v :: vs, Q, t, h => by
    obtain ⟨ns, ht⟩ := t v List.mem_cons_self
    have ht0 := ht
    obtain ⟨a, dd, items, n, sl, rfl, ga, ia⟩ := ht
    rw [List.mapM_cons]
    refine wpAny_bind ?_
    rw [kas_first_eq]
    refine wpAny_bind (Looks.here (ht0.type (M := model prog w)) ?_)
    rw [if_neg (by first | decide | simp)]
    refine wpAny_bind (listItems_at ga rfl (wpAny_pure ?_))
    refine wpAny_bind (tu_firsts vs (fun x hx => t x (List.mem_cons_of_mem _ hx)) fun fs _ => wpAny_pure (h _ fun v' r e hv => ?_))
    obtain ⟨rfl, rfl⟩ := List.cons.inj e
    obtain ⟨a', dd', items', n', sl', e', ga', ia'⟩ := hv
    obtain rfl := Value.ref.inj e'
    rw [ga] at ga'
    have ei : items = items' := by
      have q := congrArg Obj.data (Option.some.inj ga')
      exact (Data.seq.inj q).1
    refine ⟨fs, ?_⟩
    have : items'.toList = [] := by
      cases hi : items'.toList with
      | nil => rfl
      | cons x y => rw [hi] at ia'; cases ia'
    rw [ei, show items' = #[] from Array.toList_eq_nil_iff.mp this]
    rfl
end
section
variable {prog : Program} {w : World} {A : Around} {E : Value → Shared → Prop} {s : Shared}
theorem tu_kind {vs : List Value} {Q : SortKind → Shared → Prop} (hT : ∀ v ∈ vs, ∃ ns, IsTu s.heap v ns) {v₁ : Value} {rest : List Value} (e : vs = v₁ :: rest) (h0 : IsTu s.heap v₁ []) (h : Q oneType' s) : wpAny (model prog w) A (keyKind' vs.toArray) Q E s := by
  rw [keyKind'_eq, List.mapM_toArray, map_eq_pure_bind]
  refine wpAny_bind (wpAny_bind (tu_firsts vs hT fun fs hfs => wpAny_pure ?_))
  obtain ⟨gs, rfl⟩ := hfs v₁ rest e h0
  subst e
  rw [if_neg (by simp), if_neg (by simp)]
  rw [oneTypeOnly'_eq, List.mapM_toArray, map_eq_pure_bind]
  refine wpAny_bind (wpAny_bind (wpAny_bind (kas_mapM (r := Value.type "tuple") _ (fun v hv Q' hq => by
    obtain ⟨ns, t⟩ := hT v hv
    exact (t.type (M := model prog w)).here hq) (wpAny_pure ?_))))
  have hall : ((List.map (fun _ => Value.type "tuple") (v₁ :: rest)).toArray.all fun x => x == Value.type "tuple") = true := by
    simp only [List.all_toArray, List.all_map, List.all_eq_true]
    intro _ _
    exact beq_self_eq_true _
  have h1 : (List.map (fun _ => Value.type "tuple") (v₁ :: rest)).toArray[0]? = some (Value.type "tuple") := by simp
  rw [h1]
  simp only [hall, if_true]
  exact wpAny_pure (wpAny_pure h)
theorem tu_cmp {vs : List Value} {k : Value → List Int} (hu : A.units < cLine) (hv : ∀ v ∈ vs, IsTu s.heap v (k v)) : SrtO.Cmp prog w A s oneType' (fun p => p.1 ∈ vs) (SrtO.lt2 fun v u => HT.lexLt (k v) (k u)) := by
  intro p q hp hq
  exact lt_tu (Q := fun r s' => s' = s ∧ r = HT.lexLt (k p.1) (k q.1)) (E := fun _ _ => False) hu (hv p.1 hp) (hv q.1 hq) ⟨rfl, rfl⟩
theorem tu_sortable {a : Addr} {vs : List Value} {k : Value → List Int} (hu : A.units < cLine) (hv : ∀ v ∈ vs, IsTu s.heap v (k v)) (ha : ∀ o, s.heap.get? a = some o → o.cls ≠ .type "tuple") {v₁ : Value} {rest : List Value} (e : vs = v₁ :: rest) (h0 : k v₁ = []) : SrtO.SortableO prog w A s a vs fun v u => HT.lexLt (k v) (k u) := by
  intro h' keep
  have hv' : ∀ v ∈ vs, IsTu h' v (k v) := fun v hm => (hv v hm).keeps fun b o e g => keep b o (fun z => by
    subst z
    obtain ⟨a', dd, items, n, sl, e2, g2, _⟩ := hv v hm
    rw [e] at e2
    obtain rfl := Value.ref.inj e2
    exact ha _ g2 rfl) g
  refine ⟨oneType', fun Q E hq => ?_, tu_cmp (s := { s with heap := h' }) hu hv'⟩
  have t0 := hv' v₁ (by rw [e]; exact List.mem_cons_self)
  rw [h0] at t0
  exact tu_kind (s := { s with heap := h' }) (fun v hm => ⟨_, hv' v hm⟩) e t0 hq
end
end Kz
namespace Kz
open PySem PySem.Spec PyProof.Rows L2
/-- sorted(xs), xs a list of tuples of numbers, the first of them empty: the same in some order -/
def rSortTu (K : PySem.W.Frag) : List V → Hp → VK → Prop := fun vs H Q => ∃ (a : Addr) (xs : List V) (k : V → List Int) (x0 : V) (r : List V), vs = [V.ref a] ∧ SqL K H a xs ∧ xs = x0 :: r ∧ k x0 = [] ∧ (∀ x ∈ xs, ∃ t, x = V.ref t ∧ SqT K H t ((k x).map V.int)) ∧
  ∀ ys p, ys.Perm xs → H p = none → Q (.ref p) (upd H p (.lst ys))
section
variable {X : Cx}
theorem cr_sortTu (hu : X.A.units + 64 < cLine) : CallR X (.builtin "sorted") (rSortTu X.K) := by
  intro pins s σ H vs us Q I r h
  obtain ⟨a, xs, k, x0, rx, rfl, hs, ex, k0, hx, q⟩ := h
  obtain ⟨its, rv, hl, hz⟩ := I.list hs
  obtain ⟨u, rfl, ru⟩ := vals1 r
  obtain rfl : u = Value.ref a := ru
  obtain ⟨e1, e2⟩ := refs_back rv fun x m => by
    obtain ⟨t, e, _⟩ := hx x m
    exact ⟨t, e⟩
  have hv : ∀ v ∈ its, IsTu s.heap v (k (backV v)) := fun v hm => by
    obtain ⟨t, rfl⟩ := e2 v hm
    have hm2 : V.ref t ∈ xs := by rw [e1]; exact List.mem_map.mpr ⟨_, hm, rfl⟩
    obtain ⟨t', e, ht⟩ := hx _ hm2
    cases e
    obtain ⟨its2, r2, ⟨⟨c, dd, dt, sl⟩, ho, hc, n, hd⟩, _⟩ := I.tuple ht
    simp only at hc hd
    subst hc hd
    exact ⟨t, dd, its2.toArray, n, sl, rfl, ho, (by have := r2.ints; simpa [backV] using this)⟩
  obtain ⟨v0, vr, ev⟩ : ∃ v0 vr, its = v0 :: vr := by
    cases its with
    | nil => rw [ex] at rv; cases rv
    | cons v0 vr => exact ⟨v0, vr, rfl⟩
  have kv0 : k (backV v0) = [] := by
    rw [ev, ex] at e1
    have := (List.cons.inj e1).1
    rw [← this]
    exact k0
  refine SrtO.sorted_ord (NtL.swo_lexL fun v => k (backV v)) hl.isList (by rw [← rv.length]; exact hz) (fun h2 h₁ c hc kk => ?_) fun out hs2 hb => ?_
  · refine tu_sortable (s := { s with heap := h₁ }) (by show X.A.units + 1 + 1 < cLine; omega) (fun v hm => (hv v hm).keeps fun b o _ e => (kk b o e).2) (fun o e => ?_) ev kv0
    have e' : some o = some (seqObj "list" its.toArray 0) := e.symm.trans hc
    cases e'
    intro c
    exact absurd (Value.type.inj c) (by decide)
  · have h3 : ∀ u ∈ out, ∃ a, u = Value.ref a := fun u hu => e2 u (hb.perm.mem_iff.mp hu)
    obtain ⟨n, hn⟩ := PyProof.Rows.sortedAll_at s.heap its out.toArray
    have hp : (out.map backV).Perm xs := by
      rw [e1]
      exact hb.perm.map backV
    have kp : ∀ b o, s.heap.get? b = some o → (PyProof.Rows.sortedAll s.heap its out.toArray).get? b = some o := fun b o e => PyProof.Rows.sortedAll_old e
    have hd : s.heap.objs.size ≤ s.heap.objs.size + 1 := Nat.le_succ _
    refine ⟨.ref (s.heap.objs.size + 1), upd H (s.heap.objs.size + 1) (.lst (out.map backV)), I.laid (t' := s.toks) kp hd ⟨?_, out, n, vals_back h3, hn⟩, rfl, q _ _ hp (I.hok.fresh hd)⟩
    rw [hp.length_eq]
    exact hz
end
end Kz
end
section
set_option Elab.async false
set_option linter.all false
set_option maxRecDepth 100000
set_option maxHeartbeats 4000000
/-! the series, 1 -/
namespace Kz
open PySem PySem.Spec PyProof.Rows L2 KzM
theorem map_at {l : List Int} {k : Nat} (h : k < l.length) : (l.map V.int)[k]? = some (.int (co l k)) := by
  unfold co
  rw [List.getElem?_map, List.getD_eq_getElem?_getD, List.getElem?_eq_getElem h]
  rfl
theorem map_last {l : List Int} (h : l ≠ []) : atI (l.map V.int) (-1) = some (.int (co l (l.length - 1))) := by
  have e : l.map V.int = (l.dropLast.map V.int) ++ [.int (l.getLast h)] := by
    rw [← List.map_singleton, ← List.map_append, List.dropLast_concat_getLast]
  rw [e, atI_last]
  have : co l (l.length - 1) = l.getLast h := co_at (by
    rw [← List.getLast?_eq_getElem?]
    exact List.getLast?_eq_getLast h)
  rw [this]
/-- l[k] if k < len(l) else 0 -/
theorem if_over {K : PySem.W.Frag} {σ : L2.St} {H : Hp} {Q : VK} {a : Addr} {l : List Int} {k : Nat} {tk tl : TE} (htk : ∀ R : VK, R (.int (k : Nat)) H → tk σ H R) (htl : ∀ R : VK, R (.ref a) H → tl σ H R) (ha : SqX K H a (l.map V.int)) (h : Q (.int (co l k)) H) :
    tIf (tTest (tOp (rI0 fun i j => .bl (decide (i < j))) tk (tCB (lenR K) (tCons tl tNil)))) (tOp (ixSeq K) tl tk) (tC (.int 0)) σ H Q := by
  refine htk _ (htl _ ⟨a, _, rfl, ha, _, _, rfl, rfl, _, rfl, ite2 (fun e => ?_) fun e => ?_⟩)
  · have e2 := of_decide_eq_true e
    rw [List.length_map] at e2
    exact htl _ (htk _ ⟨a, _, _, _, rfl, rfl, ha, atI_nat (map_at (by omega)), h⟩)
  · have e2 : ¬ ((k : Int) < ((l.map V.int).length : Int)) := fun z => e (decide_eq_true z)
    rw [List.length_map] at e2
    rw [co_out (by omega)] at h
    exact h
theorem min_cut (lb k : Nat) (h : 1 ≤ lb) : ∃ mm : Nat, mm = (if lb - 1 < k then lb - 1 else k) ∧ (if ((lb : Int) - 1) < (k : Int) then ((lb : Int) - 1) else (k : Int)) = (mm : Int) ∧ mm ≤ k ∧ mm ≤ lb - 1 := by
  by_cases z : lb - 1 < k
  · exact ⟨lb - 1, (if_pos z).symm, by rw [if_pos (by omega)]; omega, by omega, by omega⟩
  · exact ⟨k, (if_neg z).symm, by rw [if_neg (by omega)], by omega, by omega⟩
theorem bits_mul {b : Nat} {l : List Int} (h : Bits b l) (hb : b ≤ 63) (k : Nat) : -(2 ^ 64) < co l k ∧ co l k < 2 ^ 64 := by
  have h1 := h k
  have h2 : (2 : Nat) ^ b ≤ 2 ^ 63 := Nat.pow_le_pow_right (by decide) hb
  omega
def spTrimmed (K : PySem.W.Frag) : Sp := fun vs H Q _ => ∃ (a : Addr) (l : List Int), vs = [.ref a] ∧ SqX K H a (l.map V.int) ∧ ∀ H' d (r : List Int), Same H H' → H d = none → H' d = some (.lst (r.map V.int)) → TrimOf l r → Q (.ref d) H'
def spUnrolled (K : PySem.W.Frag) : Sp := fun vs H Q _ => ∃ (a b : Addr) (over below : List Int) (m : Nat), vs = [.ref a, .ref b, .int (m : Nat)] ∧ SqX K H a (over.map V.int) ∧ SqX K H b (below.map V.int) ∧ co below 0 = 1 ∧ Bits 60 below ∧ below.length < 10000 ∧ m < 10000 ∧
  ∀ H' d (r : List Int), Same H H' → H d = none → H' d = some (.lst (r.map V.int)) → r.length = m + 1 → (∀ k, k ≤ m → conv (co below) (co r) k = co over k) → Q (.ref d) H'
section
variable {P : Program} {w : World} {K : PySem.W.Frag} {mg : Str → Option Value} {base : Heap}
abbrev N_trimmed : List Str := ["row", "found"]
theorem sc_trimmed : FnScope N_trimmed ["row"] (defScope sd_trimmed) := ⟨rfl, rfl, rfl, by decide +kernel, rfl, by decide +kernel, by decide +kernel⟩
theorem f_trimmed (D : DefAt K mg "trimmed" sd_trimmed) (T : Txt K mg) : FnS P w K mg base CX0 1 "trimmed" ["row"] (spTrimmed K) :=
  mkFn D sc_trimmed (fun _ _ _ _ _ _ us hl => match us, hl with | [_], _ => rfl) (fun vs H Q E ⟨_, _, e, _⟩ => by rw [e]; rfl) fun cdv A outer s H vs Q E hr ⟨a, l, e, ha, q⟩ => by
  subst e
  refine ⟨_, (pss_cons (ps_set (i := 1) sc_trimmed.nd rfl (.inl rfl) (pe_callTy call_list_of (by rfl) T.list_ bo_list (pa_cons (pv 0) pa_nil)))
      (pss_cons (ps_while (passes_of rfl) (PW.pt (pw_and (pt_cmpR (op_neD hr.units) (pv 1) (pe_lst pa_nil) (nomark _)) (pw_and1 (pt_cmpR op_eq (pe_ix ix_list (pv 1) (pe_un un_neg pe_int) (fun _ _ => rfl)) pe_int (nomark _))))) (pss_one (ps_expr (pe_bm0 PySem.F.plainAttrs_list PySem.F.slot_list_pop PySem.F.type_list_pop mt_pop (pv 1)))))
      (pss_one (ps_ret (pv 1))))), ?_⟩
  refine ⟨_, rfl, a, _, rfl, ha, fun d hd => ?_⟩
  refine while_own (fun σ H' => ∃ m, σ = [some (.ref a), some (.ref d)] ∧ Same H H' ∧ H' d = some (.lst ((l.take m).map V.int)) ∧ m ≤ l.length ∧ ∀ k, m ≤ k → co l k = 0) (fun _ H' => match H' d with | some (.lst xs) => xs.length | _ => 0)
    ⟨l.length, rfl, Same.new hd, by rw [upd_same, List.take_length], Nat.le_refl _, fun k hk => co_out hk⟩ ?_
  rintro σ H1 ⟨m, rfl, s1, hd1, hm, hz⟩
  have lm : (l.take m).length = m := by rw [List.length_take]; omega
  refine ⟨_, rfl, Nat.zero_le _, fun o ho => ne_nilI (ns := l.take m) (SqL.of (Same.new ho _ _ hd1)) (SqL.of upd_same) ⟨_, rfl, ?_⟩⟩
  have s2 : Same H1 (upd H1 o (.lst [])) := Same.new ho
  have hd2 := s2 _ _ hd1
  have fin : Trimd (l.take m) → Q (.ref d) (upd H1 o (.lst [])) := fun t =>
    q _ d (l.take m) (s1.trans s2) hd hd2 ⟨by rw [lm], fun k => cut_co hz k, t⟩
  by_cases e : l.take m = []
  · rw [decide_eq_true e]
    exact ⟨_, rfl, fin fun z => absurd e z⟩
  · rw [decide_eq_false e]
    refine ⟨_, rfl, 1, rfl, d, _, -1, _, rfl, rfl, SqL.of hd2, map_last e, rfl, _, rfl, ?_⟩
    by_cases z : co (l.take m) ((l.take m).length - 1) = 0
    · rw [z]
      refine ⟨_, whN, ?_⟩
      have m0 : m ≠ 0 := fun q => e (by rw [q]; rfl)
      have ml : ((l.take m).map V.int).length = m := by rw [List.length_map, lm]
      refine ⟨_, rfl, .inl ⟨rfl, _, SqL.of hd2⟩, d, _, _, rfl, rfl, hd2, by rw [ml]; exact (map_at (by rw [lm]; omega)), ?_⟩
      have ed : ((l.take m).map V.int).dropLast = (l.take (m - 1)).map V.int := by
        rw [← List.map_dropLast, List.dropLast_eq_take, lm, List.take_take, Nat.min_eq_left (Nat.sub_le m 1)]
      refine ⟨⟨m - 1, rfl, (s1.trans s2).put hd, by rw [upd_same, ed], by omega, fun k hk => ?_⟩, ?_⟩
      · by_cases e2 : k = m - 1
        · rw [lm, cut_co hz] at z
          rw [e2]
          exact z
        · exact hz k (by omega)
      · show (match (upd (upd H1 o (.lst [])) d (.lst ((l.take m).map V.int).dropLast)) d with | some (.lst xs) => xs.length | _ => 0) < (match H1 d with | some (.lst xs) => xs.length | _ => 0)
        rw [upd_same, hd1]
        show ((l.take m).map V.int).dropLast.length < ((l.take m).map V.int).length
        rw [List.length_dropLast, ml]
        omega
    · have : decide (V.int (co (l.take m) ((l.take m).length - 1)) = V.int 0) = false := decide_eq_false fun q => z (V.int.inj q)
      rw [this]
      exact ⟨_, rfl, fin fun _ => z⟩
abbrev N_unrolled_to : List Str := ["over", "below", "most", "found", "k", "item", "i"]
theorem sc_unrolled_to : FnScope N_unrolled_to ["over", "below", "most"] (defScope sd_unrolled_to) := ⟨rfl, rfl, rfl, by decide +kernel, rfl, by decide +kernel, by decide +kernel⟩
theorem f_unrolled_to (D : DefAt K mg "unrolled_to" sd_unrolled_to) (T : Txt K mg) : FnS P w K mg base CX0 1 "unrolled_to" ["over", "below", "most"] (spUnrolled K) :=
  mkFn D sc_unrolled_to (fun _ _ _ _ _ _ us hl => match us, hl with | [_, _, _], _ => rfl) (fun vs H Q E ⟨_, _, _, _, _, e, _⟩ => by rw [e]; rfl) fun cdv A outer s H vs Q E hr ⟨a, b, over, below, m, e, ha, hb, b0, bb, bl, hm, q⟩ => by
  subst e
  have big : 20000 < sizeLine := by decide
  have bl1 : 1 ≤ below.length := Decidable.byContradiction fun z => by
    rw [co_out (by omega)] at b0
    cases b0
  refine ⟨_, (pss_cons (ps_set (i := 3) sc_unrolled_to.nd rfl (.inl rfl) (pe_lst pa_nil))
      (pss_cons (ps_for (passes_of rfl) rfl (pi_range1 rfl T.range_ (pa_cons (pe_op op_add (pv 2) pe_int) pa_nil)) (pg_name (i := 4) sc_unrolled_to.nd rfl (.inl rfl)) (pss_cons (ps_set (i := 5) sc_unrolled_to.nd rfl (.inl rfl) (pe_ifExp (pt_cmpR op_lt (pv 4) (pe_callB call_len_seq (by rfl) T.len_ bo_len (pa_cons (pv 0) pa_nil)) (nomark _)) (pe_ix ix_seqX (pv 0) (pv 4) (fun _ _ => rfl)) pe_int))
      (pss_cons (ps_for (passes_of rfl) rfl (pi_range2 rfl T.range_ (pa_cons pe_int (pa_cons (pe_op op_add (pe_callB (call_min2 rfl) (by rfl) T.min_ bo_min (pa_cons (pv 4) (pa_cons (pe_op op_sub (pe_callB call_len_seq (by rfl) T.len_ bo_len (pa_cons (pv 1) pa_nil)) pe_int) pa_nil))) pe_int) pa_nil))) (pg_name (i := 6) sc_unrolled_to.nd rfl (.inl rfl)) (pss_one (ps_aug (i := 5) sc_unrolled_to.nd rfl (.inl rfl) (pe_op op_mul (pe_ix ix_seqX (pv 1) (pv 6) (fun _ _ => rfl)) (pe_ix ix_list (pv 3) (pe_op op_sub (pv 4) (pv 6)) (fun _ _ => rfl))) ip_sub)))
      (pss_one (ps_expr (pe_bm PySem.F.plainAttrs_list PySem.F.slot_list_append PySem.F.type_list_append mt_append (pv 3) (pa_cons (pv 5) pa_nil)))))))
      (pss_one (ps_ret (pv 3))))), ?_⟩
  refine ⟨Nat.zero_le _, fun d hd => ?_⟩
  have s0 : Same H (upd H d (.lst [])) := Same.new hd
  refine ⟨_, rfl, _, _, rfl, rfl, (m : Int) + 1, rfl, by omega, by omega, ?_⟩
  have e1 : ((m : Int) + 1).toNat = m + 1 := by omega
  rw [e1]
  refine for_walk (wk_range (n := m + 1)) (fun k σ H' => ∃ (r : List Int) (x4 x5 x6 : Option V), σ = [some (.ref a), some (.ref b), some (.int (m : Nat)), some (.ref d), x4, x5, x6] ∧ Same H H' ∧ H' d = some (.lst (r.map V.int)) ∧ r.length = k ∧ ∀ j, j < k → conv (co below) (co r) j = co over j)
    ⟨[], _, _, _, rfl, s0, upd_same, rfl, fun j hj => absurd hj (Nat.not_lt_zero j)⟩ (fun _ _ _ _ _ => True.intro) (fun k x σ H1 H2 hk ⟨r, x4, x5, x6, eσ, s1, hd1, lr, hc⟩ s2 it => ?_) fun σ H1 ⟨r, x4, x5, x6, eσ, s1, hd1, lr, hc⟩ => ?_
  · subst eσ it
    have s12 := s1.trans s2
    have k0 : (0 : Int) + (k : Int) = (k : Int) := by omega
    rw [k0]
    have hd2 := s2 _ _ hd1
    have hb2 := s12.seqX hb
    obtain ⟨mm, em, emi, mk, mb⟩ := min_cut below.length k bl1
    refine seq1 (asg1 (if_over (l := over) (fun R h => ⟨_, rfl, h⟩) (fun R h => ⟨_, rfl, h⟩) (s12.seqX ha) ?_))
    refine ⟨_, rfl, _, rfl, b, _, rfl, hb2, _, _, rfl, rfl, (k : Int), (below.length : Int) - 1, (by show [V.int k, V.int (((below.map V.int).length : Int) - 1)] = _; rw [List.length_map]), _, _, rfl, rfl, 1, (mm : Int) + 1, (by show [V.int 1, V.int _] = _; rw [emi]), ⟨by omega, by omega, by omega, by omega⟩, ?_⟩
    have e2 : ((mm : Int) + 1 - 1).toNat = mm := by omega
    rw [e2]
    refine for_walk (wk_range (n := mm)) (fun j σ H' => ∃ (x6 : Option V), σ = [some (.ref a), some (.ref b), some (.int (m : Nat)), some (.ref d), some (.int (k : Nat)), some (.int (co over k - sumN j (fun i => co below (1 + i) * co r (k - (1 + i))))), x6] ∧ Same H H' ∧ H' d = some (.lst (r.map V.int)))
      ⟨_, by show _ = [_, _, _, _, _, some (V.int (co over k - 0)), _]; rw [Int.sub_zero]; rfl, s12, hd2⟩ (fun _ _ _ _ _ => True.intro) (fun j x σ H3 H4 hj ⟨x6, eσ, s3, hd3⟩ s4 it => ?_) fun σ H3 ⟨x6, eσ, s3, hd3⟩ => ?_
    · subst eσ it
      have s34 := s3.trans s4
      have ej : ((1 : Int) + (j : Int)) = ((1 + j : Nat) : Int) := by omega
      have ekj : ((k : Int) - (1 + (j : Int))) = ((k - (1 + j) : Nat) : Int) := by omega
      refine ⟨_, rfl, _, rfl, _, rfl, b, _, _, _, rfl, rfl, s34.seqX hb, (by rw [ej]; exact atI_nat (map_at (by omega))), _, rfl, _, rfl, _, rfl, _, _, rfl, rfl, d, _, _, _, rfl, rfl, SqL.of (s4 _ _ hd3), (by rw [ekj]; exact atI_nat (map_at (by omega))), _, _, rfl, rfl, .inl (bits_mul bb (by decide) _), _, _, rfl, rfl, some (.int (1 + (j : Int))), ?_, s34, s4 _ _ hd3⟩
      show [_, _, _, _, _, some (V.int (co over k - sumN j _ - co below (1 + j) * co r (k - (1 + j)))), _] = [_, _, _, _, _, some (V.int (co over k - (sumN j _ + co below (1 + j) * co r (k - (1 + j))))), _]
      rw [Int.sub_sub]
    · subst eσ
      refine ⟨_, rfl, .inl ⟨rfl, _, SqL.of hd3⟩, _, rfl, d, _, _, rfl, rfl, hd3, (by rw [List.length_map, lr]; omega), r ++ [co over k - sumN mm (fun i => co below (1 + i) * co r (k - (1 + i)))], _, _, _, rfl, s3.put hd, (by rw [upd_same, List.map_append]; rfl), (by rw [List.length_append, lr]; rfl), fun j hj => ?_⟩
      by_cases e : j = k
      · rw [e]
        exact unr_item lr b0 em rfl
      · rw [unr_keep (by omega)]
        exact hc j (by omega)
  · subst eσ
    refine ⟨_, rfl, q _ d r s1 hd hd1 lr fun k hk => hc k (by omega)⟩
end
end Kz
end
section
set_option Elab.async false
set_option linter.all false
set_option maxRecDepth 100000
set_option maxHeartbeats 4000000
/-! the webs' needs -/
namespace Kz
open PySem PySem.Spec PyProof.Rows L2 KzM
/-- the class BadWeb, as it stands -/
structure WbT (K : PySem.W.Frag) (mg : Str → Option Value) (C : Addr) : Prop where
  xP : PySem.W.excIn K C He.veBase "ValueError.__new__" = true
  g : mg "BadWeb" = some (.ref C)
  kP : PySem.W.keepIn K (.ref C) = true
  bP : PySem.W.subIn K (.ref C) (.type "BaseException") = some true
  tP : PySem.W.typeIn K (.ref C) = some (.type "type")
def lineD (n : Int) : PD → Bool
  | .seq [.int a, .int b, .int _] => decide (0 ≤ a) && (decide (a < b) && decide (b < n))
  | _ => false
def pairD : PD → List Int
  | .seq (.int a :: .int b :: _) => [a, b]
  | _ => []
def linesD (n : Int) : PD → Bool
  | .seq xs => xs.all (lineD n) && decide ((xs.map pairD).Nodup)
  | _ => false
def intD : PD → Int
  | .int i => i
  | _ => 0
def nothD (n : Int) : PD → Bool
  | .seq xs => xs.all (fun d => btwD d 0 (n - 1)) && decide ((xs.map intD).Nodup)
  | _ => false
def fewD : PD → Prop
  | .seq xs => xs.length < 64 ∧ ∀ x ∈ xs, lenD x
  | _ => True
def XKw (CB : Addr) (E : XK) (H : Hp) : Prop := ∀ e, H e = none → E (.ref CB) (some e) (upd H e (.xd [("part", .str "letters")]))
def spIsLine (K : PySem.W.Frag) : Sp := fun vs H Q _ => ∃ n v d, vs = [.int n, v] ∧ PDR K H v d ∧ lenD d ∧ ∀ H', Same H H' → Q (.bl (lineD n d)) H'
def spNeedLines (K : PySem.W.Frag) (CB CW : Addr) : Sp := fun vs H Q E => ∃ v d vl dl, vs = [v, vl] ∧ PDR K H v d ∧ (btwD d 1 9 = false → XKw CB E H) ∧ ∀ n, d = .int n → btwD d 1 9 = true → PDR K H vl dl ∧ fewD dl ∧
  (linesD n dl = true → ∀ H', Same H H' → Q .non H') ∧ (linesD n dl = false → ∀ H', Same H H' → E (.ref CW) none H')
def spNeedWeb (K : PySem.W.Frag) (CB CW : Addr) : Sp := fun vs H Q E => ∃ v d vl dl vo do_, vs = [v, vl, vo] ∧ PDR K H v d ∧ (btwD d 1 9 = false → XKw CB E H) ∧ ∀ n, d = .int n → btwD d 1 9 = true → PDR K H vl dl ∧ fewD dl ∧ PDR K H vo do_ ∧ fewD do_ ∧
  (linesD n dl = true → nothD n do_ = true → ∀ H', Same H H' → Q .non H') ∧ ((linesD n dl && nothD n do_) = false → ∀ H', Same H H' → E (.ref CW) none H')
theorem numD {d : PD} (h : isNumD d = true) : ∃ i, d = .int i := by
  cases d with
  | int i => exact ⟨i, rfl⟩
  | _ => cases h
theorem pd_int {K : PySem.W.Frag} {H : Hp} {v : V} {i : Int} (h : PDR K H v (.int i)) : v = .int i := by
  cases h
  rfl
theorem row3 {K : PySem.W.Frag} {H : Hp} {v : V} {d : PD} (h : PDR K H v d) (r : rowD 3 d = true) : ∃ p a b c, v = .ref p ∧ SqX K H p [.int a, .int b, .int c] ∧ d = .seq [.int a, .int b, .int c] := by
  cases h with
  | @seq p vs xs hx rr =>
    obtain ⟨l, a⟩ := Bool.and_eq_true_iff.mp (show (decide (((xs.length : Nat) : Int) = 3) && xs.all isNumD) = true from r)
    have l : ((xs.length : Nat) : Int) = 3 := of_decide_eq_true l
    have l : xs.length = 3 := by omega
    clear r
    have all := List.all_eq_true.mp a
    obtain ⟨x, xs1, rfl⟩ : ∃ x r, xs = x :: r := by
      cases xs with
      | nil => cases l
      | cons x xr => exact ⟨x, xr, rfl⟩
    obtain ⟨y, xs2, rfl⟩ : ∃ x r, xs1 = x :: r := by
      cases xs1 with
      | nil => cases l
      | cons x xr => exact ⟨x, xr, rfl⟩
    obtain ⟨z, xs3, rfl⟩ : ∃ x r, xs2 = x :: r := by
      cases xs2 with
      | nil => cases l
      | cons x xr => exact ⟨x, xr, rfl⟩
    have e3 : xs3 = [] := by
      have : xs3.length + 3 = 3 := l
      exact List.eq_nil_of_length_eq_zero (by omega)
    subst e3
    obtain ⟨i, rfl⟩ := numD (all x List.mem_cons_self)
    obtain ⟨j, rfl⟩ := numD (all y (List.mem_cons_of_mem _ List.mem_cons_self))
    obtain ⟨k, rfl⟩ := numD (all z (List.mem_cons_of_mem _ (List.mem_cons_of_mem _ List.mem_cons_self)))
    cases rr with
    | cons h1 t1 =>
      cases t1 with
      | cons h2 t2 =>
        cases t2 with
        | cons h3 t3 =>
          cases t3
          have := pd_int h1
          subst this
          have := pd_int h2
          subst this
          have := pd_int h3
          subst this
          exact ⟨p, i, j, k, rfl, hx, rfl⟩
  | _ => cases r
theorem line_row {n : Int} {d : PD} (h : rowD 3 d = false) : lineD n d = false := by
  unfold lineD
  split
  · exact absurd h (by show ¬ ((decide ((3 : Int) = 3) && true) = false); decide)
  · rfl
theorem line_pair {n : Int} {x : PD} (h : lineD n x = true) : ∃ a b c, x = .seq [.int a, .int b, .int c] ∧ pairD x = [a, b] := by
  unfold lineD at h
  split at h
  · exact ⟨_, _, _, rfl, rfl⟩
  · cases h
theorem pd_three {K : PySem.W.Frag} {H : Hp} {v : V} {a b c : Int} (h : PDR K H v (.seq [.int a, .int b, .int c])) : ∃ p, v = .ref p ∧ SqX K H p [.int a, .int b, .int c] := by
  obtain ⟨p, a', b', c', e, hx, e2⟩ := row3 h (by show (decide ((3 : Int) = 3) && true) = true; decide)
  obtain ⟨rfl, rfl, rfl⟩ : a = a' ∧ b = b' ∧ c = c' := by
    have := PD.seq.inj e2
    simp at this
    exact this
  exact ⟨p, e, hx⟩
theorem refs_ks {K : PySem.W.Frag} {H : Hp} {D : Addr} {f : Nat → List Int} : ∀ {is : List Nat} {ys : List V}, Paired (fun i y => ∃ T, y = V.ref T ∧ T ≠ D ∧ SqT K H T ((f i).map V.int)) is ys → ∃ ks : List (Addr × List Int), ys = ks.map (fun p => V.ref p.1) ∧ ks.map (·.2) = is.map f ∧ ∀ p ∈ ks, SqT K H p.1 (p.2.map V.int) ∧ p.1 ≠ D
  | _, _, .nil => ⟨[], rfl, rfl, by simp⟩
  | _, _, .cons ⟨T, e, n, h⟩ t => by
    obtain ⟨ks, e2, e3, e4⟩ := refs_ks t
    refine ⟨(T, _) :: ks, by rw [e, e2]; rfl, by rw [List.map_cons, List.map_cons, e3], fun p hp => ?_⟩
    rcases List.mem_cons.mp hp with q | q
    · rw [q]
      exact ⟨h, n⟩
    · exact e4 p q
/-- [(line[0], line[1]) for line in lines] -/
theorem pairs_read {K : PySem.W.Frag} {tl : TE} {j : Nat} {σ : L2.St} {H : Hp} {Q : VK} {a : Addr} {vs : List V} {xs : List PD} {n : Int} (htl : ∀ R : VK, R (.ref a) H → tl σ H R) (hx : SqX K H a vs) (r : PDRs K H vs xs) (hl : vs.length < 64) (al : ∀ x ∈ xs, lineD n x = true)
    (hw : ∀ x, wipe ((wipe σ [j]).set j (some x)) [j] = wipe σ [j]) (hg : ∀ x, ((wipe σ [j]).set j (some x))[j]? = some (some x))
    (h : ∀ D H' (ks : List (Addr × List Int)), Same H H' → H D = none → H' D = some (.lst (ks.map fun p => V.ref p.1)) → ks.map (·.2) = xs.map pairD → (∀ p ∈ ks, SqT K H' p.1 (p.2.map V.int) ∧ p.1 ≠ D) → Q (.ref D) H') :
    tLc (iSeq K tl) (gName j) tYes (tTup (tCons (tOp (ixSeq K) (tVar j) (tC (.int 0))) (tCons (tOp (ixSeq K) (tVar j) (tC (.int 1))) tNil))) [j] σ H Q := by
  have hz : vs.length < sizeLine := Nat.lt_trans hl (by decide)
  have step : ∀ D i x H' (C : VK) (N : Hp → Prop), i < vs.length → vs[i]? = some x → Same H H' → H D = none → (∃ acc, H' D = some (.lst acc)) → (∀ y H4, (fun _ => true) i = true → Same H' H4 → (∃ T, y = V.ref T ∧ T ≠ D ∧ SqT K H4 T ((pairD (xs.getD i .oth)).map V.int)) → C y H4) → (∀ H4, (fun _ => true) i = false → Same H' H4 → N H4) →
      gName j x (wipe σ [j]) H' fun σ2 H2 => wipe σ2 [j] = wipe σ [j] ∧ tYes σ2 H2 fun b H3 => if b = true then tTup (tCons (tOp (ixSeq K) (tVar j) (tC (.int 0))) (tCons (tOp (ixSeq K) (tVar j) (tC (.int 1))) tNil)) σ2 H3 C else N H3 := fun D i x H' C N hi hxi s2 hD ac kC kN => by
    obtain ⟨di, h1, h2⟩ := r.at_ hxi
    obtain ⟨p, q, c, ed, ep⟩ := line_pair (al di (List.mem_of_getElem? h1))
    subst ed
    obtain ⟨ad, rfl, hp⟩ := pd_three (h2.mono s2)
    have eg : xs.getD i .oth = .seq [.int p, .int q, .int c] := by rw [List.getD_eq_getElem?_getD, h1]; rfl
    obtain ⟨acc, hacc⟩ := ac
    refine ⟨hw _, _, hg _, ad, _, 0, _, rfl, rfl, hp, atI_nat (j := 0) rfl, _, hg _, ad, _, 1, _, rfl, rfl, hp, atI_nat (j := 1) rfl, (by show 2 ≤ sizeLine; decide), fun t ht => ?_⟩
    exact kC _ _ rfl (Same.new ht) ⟨t, rfl, ne_of_none' hacc ht, by rw [eg, ep]; exact SqT.of upd_same⟩
  have done : ∀ D H' ys, Same H H' → H D = none → H' D = some (.lst ys) → Paired (fun i y => ∃ T, y = V.ref T ∧ T ≠ D ∧ SqT K H' T ((pairD (xs.getD i .oth)).map V.int)) ((List.range vs.length).filter fun _ => true) ys → Q (.ref D) H' := fun D H' ys s2 hD e2 rr => by
    rw [List.filter_eq_self.mpr fun _ _ => rfl] at rr
    obtain ⟨ks, e3, e4, e5⟩ := refs_ks (f := fun i => pairD (xs.getD i .oth)) rr
    rw [e3] at e2
    refine h D H' ks s2 hD e2 ?_ e5
    rw [e4, r.len, range_map xs _ pairD fun i a h => by rw [List.getD_eq_getElem?_getD, h]; rfl]
  have stab : ∀ D i y H1 H2, But D H1 H2 → (∃ T, y = V.ref T ∧ T ≠ D ∧ SqT K H1 T ((pairD (xs.getD i .oth)).map V.int)) → ∃ T, y = V.ref T ∧ T ≠ D ∧ SqT K H2 T ((pairD (xs.getD i .oth)).map V.int) := fun D i y H1 H2 b ⟨T, e, n, k⟩ => by
    refine ⟨T, e, n, ?_⟩
    rcases k with (k | ⟨o, k⟩) | k
    · exact .inl (.inl (b _ _ n k))
    · exact .inl (.inr ⟨o, b _ _ n k⟩)
    · exact .inr k
  refine htl _ ⟨a, rfl, hx.elim (fun hx => .inl ⟨⟨_, hx⟩, ?_⟩) fun hx => .inr ⟨⟨_, hx⟩, ?_⟩⟩
  · exact lc_walk wk_list (fun _ => true) _ stab hz hx step done
  · exact lc_walk wk_tup (fun _ => true) _ stab hz hx step done
section
variable {P : Program} {w : World} {K : PySem.W.Frag} {mg : Str → Option Value} {base : Heap}
abbrev N_is_line : List Str := ["letters", "thing"]
theorem sc_is_line : FnScope N_is_line ["letters", "thing"] (defScope sd_is_line) := ⟨rfl, rfl, rfl, by decide +kernel, rfl, by decide +kernel, by decide +kernel⟩
theorem f_is_line (D : DefAt K mg "is_line" sd_is_line) (T : Txt K mg) (f_is_row : FnS P w K mg base CX0 2 "is_row" ["thing", "size"] (spIsRow K)) : FnS P w K mg base CX0 3 "is_line" ["letters", "thing"] (spIsLine K) :=
  mkFn D sc_is_line (fun _ _ _ _ _ _ us hl => match us, hl with | [_, _], _ => rfl) (fun vs H Q E ⟨_, _, _, e, _⟩ => by rw [e]; rfl) fun cdv A outer s H vs Q E hr ⟨n, v, d, e, hd, hl, q⟩ => by
  subst e
  refine ⟨_, (pss_one (ps_ret (pe_and (pe_call f_is_row.ok (hr.mono (by decide)) rfl f_is_row.g f_is_row.kp f_is_row.b .nil pass0 (pa_cons (pv 1) (pa_cons pe_int pa_nil))) (pe_one (pe_chain3 op_le op_lt op_lt pe_int (pe_ix ix_seqX (pv 1) pe_int (fun _ _ => rfl)) (pe_ix ix_seqX (pv 1) pe_int (fun _ _ => rfl)) (pv 0)))))), ?_⟩
  refine ⟨_, rfl, v, d, 3, rfl, hd, hl, fun H1 s1 => ⟨_, rfl, ?_⟩⟩
  cases hr3 : rowD 3 d with
  | false =>
    have := q H1 s1
    rw [line_row hr3] at this
    exact this
  | true =>
    obtain ⟨p, a, b, c, rfl, hx, rfl⟩ := row3 (hd.mono s1) hr3
    have q1 := q H1 s1
    refine ⟨_, rfl, p, _, 0, _, rfl, rfl, hx, atI_nat (j := 0) rfl, _, _, rfl, rfl, _, rfl, ?_⟩
    have eL : lineD n (.seq [.int a, .int b, .int c]) = (decide (0 ≤ a) && (decide (a < b) && decide (b < n))) := rfl
    rw [eL] at q1
    refine ite2 (fun e1 => ?_) fun e1 => ?_
    · rw [show decide (0 ≤ a) = true from e1, Bool.true_and] at q1
      refine ⟨_, rfl, p, _, 1, _, rfl, rfl, hx, atI_nat (j := 1) rfl, _, _, rfl, rfl, _, rfl, ite2 (fun e2 => ?_) fun e2 => ?_⟩
      · rw [show decide (a < b) = true from e2, Bool.true_and] at q1
        exact ⟨_, rfl, _, _, rfl, rfl, q1⟩
      · rw [show decide (a < b) = false by simpa using e2, Bool.false_and] at q1
        exact q1
    · rw [show decide (0 ≤ a) = false by simpa using e1, Bool.false_and] at q1
      exact q1
end
end Kz
end
section
set_option Elab.async false
set_option linter.all false
set_option maxRecDepth 100000
set_option maxHeartbeats 4000000
/-! the webs' needs, 2 -/
namespace Kz
open PySem PySem.Spec PyProof.Rows L2 KzM
theorem btw_num {d : PD} {lo hi : Int} (h : btwD d lo hi = true) : ∃ n, d = .int n := by
  cases d with
  | int i => exact ⟨i, rfl⟩
  | _ => cases h
theorem seq_no {n : Int} {dl : PD} (h : isSeqD dl = false) : linesD n dl = false := by
  cases dl with
  | seq xs => cases h
  | _ => rfl
theorem seq_noN {n : Int} {dl : PD} (h : isSeqD dl = false) : nothD n dl = false := by
  cases dl with
  | seq xs => cases h
  | _ => rfl
theorem seq_is {K : PySem.W.Frag} {H : Hp} {v : V} {d : PD} (h : PDR K H v d) (e : isSeqD d = true) : ∃ a vs xs, v = .ref a ∧ d = .seq xs ∧ SqX K H a vs ∧ PDRs K H vs xs := by
  cases h with
  | @seq a vs xs hx r => exact ⟨a, vs, xs, rfl, rfl, hx, r⟩
  | _ => cases e
theorem next1 {D : Ends} {σ : L2.St} {H : Hp} (h : D.nx σ H) : tNext D σ H := h
theorem lenT1 {K : PySem.W.Frag} {ta : TE} {σ : L2.St} {H : Hp} {Q : VK} (h : ta σ H fun x H1 => ∃ (l : Addr) (ks : List (Addr × List Int)), x = V.ref l ∧ SqL K H1 l (ks.map fun p => V.ref p.1) ∧ (∀ p ∈ ks, SqT K H1 p.1 (p.2.map V.int)) ∧ ks.length < 64 ∧ ∀ m : Nat, (m = ks.length ↔ (ks.map (·.2)).Nodup) → Q (.int m) H1) : tLenSetT K ta σ H Q := h
theorem seqT1 {p q : Prop} (h : q) : if (!true) = true then p else q := h
section
variable {w : World} {K : PySem.W.Frag} {mg : Str → Option Value} {base : Heap}
abbrev N_need_lines : List Str := ["letters", "lines", "line"]
theorem sc_need_lines : FnScope N_need_lines ["letters", "lines"] (defScope sd_need_lines) := ⟨rfl, rfl, rfl, by decide +kernel, rfl, by decide +kernel, by decide +kernel⟩
theorem f_need_lines {CB CW : Addr} (D : DefAt K mg "need_lines" sd_need_lines) (T : Txt K mg) (W : WbT K mg CW) (f_need_letters : FnS PG w K mg base (L2.CX PG w) 3 "need_letters" ["letters"] (spNeedLetters K CB)) (f_is_list : FnS PG w K mg base CX0 1 "is_list" ["thing"] (spIsList K)) (f_is_line : FnS PG w K mg base CX0 3 "is_line" ["letters", "thing"] (spIsLine K)) :
    FnS PG w K mg base (L2.CX PG w) 4 "need_lines" ["letters", "lines"] (spNeedLines K CB CW) :=
  mkFn D sc_need_lines (fun _ _ _ _ _ _ us hl => match us, hl with | [_, _], _ => rfl) (fun vs H Q E ⟨_, _, _, _, e, _⟩ => by rw [e]; rfl) fun cdv A outer s H vs Q E hr ⟨v, d, vl, dl, e, hd, q1, q2⟩ => by
  subst e
  refine ⟨_, (pss_cons (ps_expr (pe_call f_need_letters.ok (hr.mono (by decide)) rfl f_need_letters.g f_need_letters.kp f_need_letters.b .nil (passes_call (takes_of rfl rfl rfl rfl) fun _ _ _ _ h => h) (pa_cons (pv 0) pa_nil)))
      (pss_cons (ps_if (PW.pt (pw_or (pt_not (pt_val (pe_call f_is_list.ok (hr.mono (by decide)) rfl f_is_list.g f_is_list.kp f_is_list.b .nil pass0 (pa_cons (pv 1) pa_nil)))) (pw_or1 (pt_not (pt_val (pe_callB (cr_all rfl) (by rfl) T.all_ bo_all (pa_cons (pe_lc (own := [("line", 2)]) (g := (gName 2)) rfl sc_need_lines.nd (pi_seq (pv 1)) (blkOk_by (N := N_need_lines) (sc := defScope sd_need_lines) (by decide +kernel)) (fun _ _ _ _ _ => (pg_name (i := 2) sc_need_lines.nd rfl (.inl rfl))) (fun _ _ _ _ _ => pts_nil) (fun _ _ _ _ _ => (pe_call f_is_line.ok (hr.mono (by decide)) rfl f_is_line.g f_is_line.kp f_is_line.b .nil pass0 (pa_cons (pv 0) (pa_cons (pv 2) pa_nil))))) pa_nil))))))) (pss_one (ps_raise rfl (takes_of rfl rfl rfl rfl) (pmk_own PySem.F.excBase_ValueError W.xP W.g W.kP (raises_own W.bP W.tP) rfl))) pss_nil)
      (pss_one (ps_if (pt_cmpR op_ne (pe_lenSetT rfl hr.units (by rfl) T.len_ (by rfl) T.set_ (pe_lc (own := [("line", 2)]) (g := (gName 2)) rfl sc_need_lines.nd (pi_seq (pv 1)) (blkOk_by (N := N_need_lines) (sc := defScope sd_need_lines) (by decide +kernel)) (fun _ _ _ _ _ => (pg_name (i := 2) sc_need_lines.nd rfl (.inl rfl))) (fun _ _ _ _ _ => pts_nil) (fun _ _ _ _ _ => (pe_tup (pa_cons (pe_ix (ix_seqX : IxR _ (ixSeq K)) (pv 2) pe_int (fun _ _ => rfl)) (pa_cons (pe_ix (ix_seqX : IxR _ (ixSeq K)) (pv 2) pe_int (fun _ _ => rfl)) pa_nil)))))) (pe_callB call_len_seq (by rfl) T.len_ bo_len (pa_cons (pv 1) pa_nil)) (nomark _)) (pss_one (ps_raise rfl (takes_of rfl rfl rfl rfl) (pmk_own PySem.F.excBase_ValueError W.xP W.g W.kP (raises_own W.bP W.tP) rfl))) pss_nil)))), ?_⟩
  refine ⟨v, rfl, v, d, rfl, hd, fun hb => ?_, fun hb => q1 hb⟩
  obtain ⟨n, rfl⟩ := btw_num hb
  obtain ⟨pdl, few, ok, bad⟩ := q2 n rfl hb
  have ev := pd_int hd
  subst ev
  refine ⟨vl, rfl, vl, dl, rfl, pdl, fun H1 s1 => ⟨_, rfl, ?_⟩⟩
  cases es : isSeqD dl with
  | false => exact bad (seq_no es) H1 s1
  | true =>
    obtain ⟨a, vs, xs, rfl, rfl, hx, r⟩ := seq_is (pdl.mono s1) es
    refine tcb1 (lcS_V (K := K) (fun i => .bl (match xs[i]? with | some d => lineD n d | none => false)) (fun R h => ⟨_, rfl, h⟩) hx (by rw [r.len]; exact Nat.lt_trans few.1 (by decide)) (fun D i x H' C hi hxi s2 hD ac k => ?_) fun D H' s2 hD e2 => ?_)
    · obtain ⟨di, h1, h2⟩ := r.at_ hxi
      refine ⟨rfl, _, rfl, _, rfl, n, x, di, rfl, h2.mono s2, few.2 _ (List.mem_of_getElem? h1), fun H4 s4 => ?_⟩
      have := k H4 s4
      rw [h1] at this
      exact this
    · have ebs : (List.range vs.length).map (fun i => V.bl (match xs[i]? with | some d => lineD n d | none => false)) = (xs.map (lineD n)).map V.bl := by
        rw [r.len, range_map xs _ (fun d => V.bl (lineD n d)) fun i a h => by rw [h], List.map_map]
        rfl
      rw [ebs] at e2
      have s12 := s1.trans s2
      refine ⟨D, xs.map (lineD n), rfl, SqL.of e2, _, rfl, ?_⟩
      cases ea : (xs.map (lineD n)).all id with
      | false =>
        refine bad ?_ H' s12
        have : xs.all (lineD n) = false := by
          rw [← ea, List.all_map]
          rfl
        show (xs.all (lineD n) && _) = false
        rw [this, Bool.false_and]
      | true =>
        have al : xs.all (lineD n) = true := by
          rw [← ea, List.all_map]
          rfl
        have al2 := List.all_eq_true.mp al
        have hx2 := s2.seqX hx
        have r2 := PDRs.mono s2 r
        have vl64 : vs.length < 64 := by rw [r.len]; exact few.1
        refine seqT1 (next1 ?_)
        dsimp only
        refine if1 (test1 (op1 (lenT1 (pairs_read (K := K) (j := 2) (n := n) (fun R h => ⟨_, rfl, h⟩) hx2 r2 vl64 al2 (fun _ => rfl) (fun _ => rfl) fun D5 H5 ks s5 hD5 e5 e6 e7 => ?_))))
        have lk : ks.length = xs.length := by
          have := congrArg List.length e6
          rw [List.length_map, List.length_map] at this
          exact this
        have s15 := s12.trans s5
        refine ⟨D5, ks, rfl, SqL.of e5, fun p hp => (e7 p hp).1, by rw [lk]; exact few.1, fun m hm => ?_⟩
        refine ⟨_, rfl, a, _, rfl, s5.seqX hx2, rfl, _, rfl, ?_⟩
        rw [e6] at hm
        by_cases nd : (xs.map pairD).Nodup
        · have em : m = ks.length := hm.mpr nd
          have : decide (V.int ((m : Nat) : Int) = V.int ((vs.length : Nat) : Int)) = true := decide_eq_true (by rw [em, lk, r.len])
          rw [this]
          refine ok ?_ H5 s15
          show (xs.all (lineD n) && decide ((xs.map pairD).Nodup)) = true
          rw [al, decide_eq_true nd]
          rfl
        · have em : ¬ m = ks.length := fun z => nd (hm.mp z)
          have : decide (V.int ((m : Nat) : Int) = V.int ((vs.length : Nat) : Int)) = false := decide_eq_false fun z => em (by
            have := V.int.inj z
            have := r.len
            omega)
          rw [this]
          refine bad ?_ H5 s15
          show (xs.all (lineD n) && decide ((xs.map pairD).Nodup)) = false
          rw [al, decide_eq_false nd]
          rfl
end
end Kz
end
section
set_option Elab.async false
set_option linter.all false
set_option maxRecDepth 100000
set_option maxHeartbeats 4000000
/-! the webs' needs, 3 -/
namespace Kz
open PySem PySem.Spec PyProof.Rows L2 KzM
theorem lenX1 {K : PySem.W.Frag} {ta : TE} {σ : L2.St} {H : Hp} {Q : VK} (h : ta σ H fun x H1 => ∃ (l : Addr) (ns : List Int), x = V.ref l ∧ SqX K H1 l (ns.map V.int) ∧ ns.length < 64 ∧ ∀ m : Nat, (m = ns.length ↔ ns.Nodup) → Q (.int m) H1) : tLenSetX K ta σ H Q := h
theorem pds_ints {K : PySem.W.Frag} {H : Hp} : ∀ {vs : List V} {xs : List PD}, PDRs K H vs xs → (∀ x ∈ xs, ∃ i, x = .int i) → vs = (xs.map intD).map V.int
  | _, _, .nil, _ => rfl
  | _, _, .cons h t, al => by
    obtain ⟨i, rfl⟩ := al _ List.mem_cons_self
    rw [pd_int h, pds_ints t fun x hx => al x (List.mem_cons_of_mem _ hx)]
    rfl
section
variable {w : World} {K : PySem.W.Frag} {mg : Str → Option Value} {base : Heap}
abbrev N_need_web : List Str := ["letters", "lines", "nothings", "letter"]
theorem sc_need_web : FnScope N_need_web ["letters", "lines", "nothings"] (defScope sd_need_web) := ⟨rfl, rfl, rfl, by decide +kernel, rfl, by decide +kernel, by decide +kernel⟩
theorem f_need_web {CB CW : Addr} (D : DefAt K mg "need_web" sd_need_web) (T : Txt K mg) (W : WbT K mg CW) (f_need_lines : FnS PG w K mg base (L2.CX PG w) 4 "need_lines" ["letters", "lines"] (spNeedLines K CB CW)) (f_is_list : FnS PG w K mg base CX0 1 "is_list" ["thing"] (spIsList K)) (f_is_between : FnS PG w K mg base CX0 2 "is_between" ["thing", "low", "high"] (spIsBetween K)) :
    FnS PG w K mg base (L2.CX PG w) 5 "need_web" ["letters", "lines", "nothings"] (spNeedWeb K CB CW) :=
  mkFn D sc_need_web (fun _ _ _ _ _ _ us hl => match us, hl with | [_, _, _], _ => rfl) (fun vs H Q E ⟨_, _, _, _, _, _, e, _⟩ => by rw [e]; rfl) fun cdv A outer s H vs Q E hr ⟨v, d, vl, dl, vo, do_, e, hd, q1, q2⟩ => by
  subst e
  refine ⟨_, (pss_cons (ps_expr (pe_call f_need_lines.ok (hr.mono (by decide)) rfl f_need_lines.g f_need_lines.kp f_need_lines.b .nil (passes_call (takes_of rfl rfl rfl rfl) fun _ _ _ _ h => h) (pa_cons (pv 0) (pa_cons (pv 1) pa_nil))))
      (pss_cons (ps_if (PW.pt (pw_or (pt_not (pt_val (pe_call f_is_list.ok (hr.mono (by decide)) rfl f_is_list.g f_is_list.kp f_is_list.b .nil pass0 (pa_cons (pv 2) pa_nil)))) (pw_or1 (pt_not (pt_val (pe_callB (cr_all rfl) (by rfl) T.all_ bo_all (pa_cons (pe_lc (own := [("letter", 3)]) (g := (gName 3)) rfl sc_need_web.nd (pi_seq (pv 2)) (blkOk_by (N := N_need_web) (sc := defScope sd_need_web) (by decide +kernel)) (fun _ _ _ _ _ => (pg_name (i := 3) sc_need_web.nd rfl (.inl rfl))) (fun _ _ _ _ _ => pts_nil) (fun _ _ _ _ _ => (pe_call f_is_between.ok (hr.mono (by decide)) rfl f_is_between.g f_is_between.kp f_is_between.b .nil pass0 (pa_cons (pv 3) (pa_cons pe_int (pa_cons (pe_op op_sub (pv 0) pe_int) pa_nil)))))) pa_nil))))))) (pss_one (ps_raise rfl (takes_of rfl rfl rfl rfl) (pmk_own PySem.F.excBase_ValueError W.xP W.g W.kP (raises_own W.bP W.tP) rfl))) pss_nil)
      (pss_one (ps_if (pt_cmpR op_ne (pe_lenSetX rfl (by rfl) T.len_ (by rfl) T.set_ (pv 2)) (pe_callB call_len_seq (by rfl) T.len_ bo_len (pa_cons (pv 2) pa_nil)) (nomark _)) (pss_one (ps_raise rfl (takes_of rfl rfl rfl rfl) (pmk_own PySem.F.excBase_ValueError W.xP W.g W.kP (raises_own W.bP W.tP) rfl))) pss_nil)))), ?_⟩
  refine ⟨v, rfl, vl, rfl, v, d, vl, dl, rfl, hd, q1, fun n en hb => ?_⟩
  obtain ⟨pdl, few, pdo, fewo, ok, bad⟩ := q2 n en hb
  subst en
  have ev := pd_int hd
  subst ev
  refine ⟨pdl, few, fun okl H1 s1 => ?_, fun badl H1 s1 => bad (by rw [badl]; rfl) H1 s1⟩
  refine ⟨vo, rfl, vo, do_, rfl, pdo.mono s1, fun H2 s2 => ⟨_, rfl, ?_⟩⟩
  have s12 := s1.trans s2
  cases es : isSeqD do_ with
  | false => exact bad (by rw [seq_noN es, Bool.and_false]) H2 s12
  | true =>
    obtain ⟨a, vs, xs, rfl, rfl, hx, r⟩ := seq_is (pdo.mono s12) es
    refine tcb1 (lcS_V (K := K) (fun i => .bl (match xs[i]? with | some d => btwD d 0 (n - 1) | none => false)) (fun R h => ⟨_, rfl, h⟩) hx (by rw [r.len]; exact Nat.lt_trans fewo.1 (by decide)) (fun D i x H' C hi hxi s2 hD ac k => ?_) fun D H' s3 hD e2 => ?_)
    · obtain ⟨di, h1, h2⟩ := r.at_ hxi
      refine ⟨rfl, _, rfl, _, rfl, _, _, rfl, rfl, x, di, 0, n - 1, rfl, h2.mono s2, ?_⟩
      have := k H' (Same.refl _)
      rw [h1] at this
      exact this
    · have ebs : (List.range vs.length).map (fun i => V.bl (match xs[i]? with | some d => btwD d 0 (n - 1) | none => false)) = (xs.map fun d => btwD d 0 (n - 1)).map V.bl := by
        rw [r.len, range_map xs _ (fun d => V.bl (btwD d 0 (n - 1))) fun i a h => by rw [h], List.map_map]
        rfl
      rw [ebs] at e2
      have s13 := s12.trans s3
      refine ⟨D, xs.map fun d => btwD d 0 (n - 1), rfl, SqL.of e2, _, rfl, ?_⟩
      cases ea : (xs.map fun d => btwD d 0 (n - 1)).all id with
      | false =>
        refine bad ?_ H' s13
        have : xs.all (fun d => btwD d 0 (n - 1)) = false := by
          rw [← ea, List.all_map]
          rfl
        have : nothD n (.seq xs) = false := by
          show (xs.all (fun d => btwD d 0 (n - 1)) && _) = false
          rw [this, Bool.false_and]
        rw [this, Bool.and_false]
      | true =>
        have al : xs.all (fun d => btwD d 0 (n - 1)) = true := by
          rw [← ea, List.all_map]
          rfl
        have al2 := List.all_eq_true.mp al
        have evs := pds_ints r fun x hx => btw_num (al2 x hx)
        have hx3 := s3.seqX hx
        refine seqT1 (next1 ?_)
        dsimp only
        refine if1 (test1 (op1 (lenX1 ⟨_, rfl, a, xs.map intD, rfl, by rw [← evs]; exact hx3, by rw [List.length_map]; exact fewo.1, fun m hm => ?_⟩)))
        refine ⟨_, rfl, a, _, rfl, hx3, rfl, _, rfl, ?_⟩
        rw [List.length_map] at hm
        by_cases nd : (xs.map intD).Nodup
        · have em : m = xs.length := hm.mpr nd
          have : decide (V.int ((m : Nat) : Int) = V.int ((vs.length : Nat) : Int)) = true := decide_eq_true (by rw [em, r.len])
          rw [this]
          refine ok okl ?_ H' s13
          show (xs.all (fun d => btwD d 0 (n - 1)) && decide ((xs.map intD).Nodup)) = true
          rw [al, decide_eq_true nd]
          rfl
        · have em : ¬ m = xs.length := fun z => nd (hm.mp z)
          have : decide (V.int ((m : Nat) : Int) = V.int ((vs.length : Nat) : Int)) = false := decide_eq_false fun z => em (by
            have := V.int.inj z
            have := r.len
            omega)
          rw [this]
          refine bad ?_ H' s13
          have : nothD n (.seq xs) = false := by
            show (xs.all (fun d => btwD d 0 (n - 1)) && decide ((xs.map intD).Nodup)) = false
            rw [al, decide_eq_false nd]
            rfl
          rw [this, Bool.and_false]
end
end Kz
end
section
set_option Elab.async false
set_option linter.all false
set_option maxRecDepth 100000
set_option maxHeartbeats 4000000
/-! the solving, 1 -/
namespace Kz
open PySem PySem.Spec PyProof.Rows L2
/-! ### the inverse -/
def unF (p : Int) : Nat → Int → Int → Int → Int
  | 0, f, _, _ => f
  | k + 1, f, b, l => if 0 < l then unF p k (if l % 2 = 1 then f * b % p else f) (b * b % p) (l / 2) else f
abbrev fieldsL : List Int := [2, 3, 5, 7, 11, 13, 97]
def undoneV (p n : Int) : Int := unF p 7 1 (n % p) (p - 2)
theorem undone_all : ∀ p ∈ fieldsL, ∀ n ∈ List.range 97, (n : Int) ≠ 0 → (n : Int) < p → 0 ≤ undoneV p n ∧ undoneV p n < p ∧ (n : Int) * undoneV p n % p = 1 := by decide +kernel
theorem fields_pos {p : Int} (h : p ∈ fieldsL) : 2 ≤ p ∧ p ≤ 97 := by
  have : ∀ p ∈ fieldsL, (2 : Int) ≤ p ∧ p ≤ 97 := by decide
  exact this p h
theorem fields_prime {p : Int} (h : p ∈ fieldsL) : p ∈ primesL := by
  have : ∀ p ∈ fieldsL, p ∈ primesL := by decide
  exact this p h
theorem undone_is {p n : Int} (hp : p ∈ fieldsL) (h0 : 0 < n) (hn : n < p) : 0 ≤ undoneV p n ∧ undoneV p n < p ∧ n * undoneV p n % p = 1 := by
  have := fields_pos hp
  have e : ((n.toNat : Nat) : Int) = n := by omega
  have h := undone_all p hp n.toNat (List.mem_range.mpr (by omega)) (by omega) (by omega)
  rw [e] at h
  exact h
theorem unF_stop {p : Int} : ∀ {k : Nat} {f b l : Int}, ¬ 0 < l → unF p k f b l = f
  | 0, _, _, _, _ => rfl
  | k + 1, f, b, l, h => if_neg h
def spUndone : Sp := fun vs H Q _ => ∃ p n, vs = [.int p, .int n] ∧ p ∈ fieldsL ∧ ∀ H', Same H H' → Q (.int (undoneV p n)) H'
def spFew (K : PySem.W.Frag) : Sp := fun vs H Q _ => ∃ (p : Int) (a : Addr) (xs : List Int), vs = [.int p, .ref a] ∧ SqX K H a (xs.map V.int) ∧ 0 < p ∧ xs.length < sizeLine ∧ ∀ H' d, Same H H' → H d = none → SpR H' d (fun k => xs.getD k 0 % p) → Q (.ref d) H'
def spWholeRow (K : PySem.W.Frag) : Sp := fun vs H Q _ => ∃ (n : Nat) (d : Addr) (f : Nat → Int), vs = [.int n, .ref d] ∧ SpR H d f ∧ n < 10000 ∧ ∀ H' t, Same H H' → H t = none → SqT K H' t ((List.range n).map fun k => V.int (f k)) → Q (.ref t) H'
section
variable {P : Program} {w : World} {K : PySem.W.Frag} {mg : Str → Option Value} {base : Heap}
abbrev N_undone : List Str := ["prime", "number", "found", "base", "left"]
theorem sc_undone : FnScope N_undone ["prime", "number"] (defScope sd_undone) := ⟨rfl, rfl, rfl, by decide +kernel, rfl, by decide +kernel, by decide +kernel⟩
theorem f_undone (D : DefAt K mg "undone" sd_undone) (T : Txt K mg) : FnS P w K mg base CX0 1 "undone" ["prime", "number"] spUndone :=
  mkFn D sc_undone (fun _ _ _ _ _ _ us hl => match us, hl with | [_, _], _ => rfl) (fun vs H Q E ⟨_, _, e, _⟩ => by rw [e]; rfl) fun cdv A outer s H vs Q E hr ⟨p, n, e, hp, q⟩ => by
  subst e
  have hp2 := fields_pos hp
  refine ⟨_, (pss_cons (ps_par3 (i := 2) (j := 3) (l := 4) rfl sc_undone.nd rfl rfl rfl (by decide) (by decide) (by decide) rfl rfl rfl (pa_cons pe_int (pa_cons (pe_op op_mod (pv 1) (pv 0)) (pa_cons (pe_op op_sub (pv 0) pe_int) pa_nil))) (by rfl))
      (pss_cons (ps_while (passes_of rfl) (pt_cmpR op_gt (pv 4) pe_int (nomark _)) (pss_cons (ps_if (pt_cmpR op_eq (pe_op op_mod (pv 4) pe_int) pe_int (nomark _)) (pss_one (ps_set (i := 2) sc_undone.nd rfl (.inl rfl) (pe_op op_mod (pe_op op_mul (pv 2) (pv 3)) (pv 0)))) pss_nil)
      (pss_one (ps_par (i := 3) (j := 4) rfl sc_undone.nd rfl rfl (by decide) rfl rfl (pa_cons (pe_op op_mod (pe_op op_mul (pv 3) (pv 3)) (pv 0)) (pa_cons (pe_op op_fdiv (pv 4) pe_int) pa_nil)) (by rfl)))))
      (pss_one (ps_ret (pv 2))))), ?_⟩
  refine ⟨_, rfl, _, rfl, _, _, rfl, rfl, (by omega), _, rfl, _, _, rfl, rfl, _, _, _, rfl, ?_⟩
  refine while_own (fun σ H' => ∃ (k : Nat) (f b l : Int), σ = [some (.int p), some (.int n), some (.int f), some (.int b), some (.int l)] ∧ Same H H' ∧ unF p k f b l = undoneV p n ∧ l < 2 ^ k ∧ 0 ≤ f ∧ f < p ∧ 0 ≤ b ∧ b < p) (fun σ _ => match σ with | [_, _, _, _, some (.int l)] => l.toNat | _ => 0) ⟨7, _, _, _, rfl, Same.refl _, rfl, by omega, by omega, by omega, Int.emod_nonneg _ (by omega), Int.emod_lt_of_pos _ (by omega)⟩ ?_
  rintro σ H1 ⟨k, f, b, l, rfl, s2, ek, hl, hf, hf2, hb, hb2⟩
  refine ⟨_, rfl, _, _, rfl, rfl, _, rfl, ite2 (fun e => ⟨_, whN, ?_⟩) fun e => ?_⟩
  · have h0 : 0 < l := of_decide_eq_true e
    cases k with
    | zero => simp at hl; omega
    | succ k =>
      have ek2 : unF p k (if l % 2 = 1 then f * b % p else f) (b * b % p) (l / 2) = undoneV p n := by
        rw [← ek]
        exact (if_pos h0).symm
      have hl2 : l / 2 < 2 ^ k := by
        rw [Int.pow_succ] at hl
        omega
      have l0 : (l / 2).toNat < l.toNat := by omega
      refine ⟨_, rfl, _, _, rfl, rfl, (by show (0 : Int) < 2; decide), rfl, _, rfl, ite2 (fun e2 => ?_) fun e2 => ?_⟩
      · have o : l % 2 = 1 := V.int.inj (of_decide_eq_true e2)
        rw [if_pos o] at ek2
        refine ⟨_, rfl, _, rfl, _, _, rfl, rfl, .inl ⟨by omega, by omega⟩, _, rfl, _, _, rfl, rfl, (by omega), ?_⟩
        refine ⟨_, rfl, _, rfl, _, _, rfl, rfl, .inl ⟨by omega, by omega⟩, _, rfl, _, _, rfl, rfl, (by omega), _, rfl, _, _, rfl, rfl, ⟨by decide, by decide⟩, _, _, rfl, ?_⟩
        exact ⟨⟨k, f * b % p, b * b % p, l / 2, rfl, s2, ek2, hl2, Int.emod_nonneg _ (by omega), Int.emod_lt_of_pos _ (by omega), Int.emod_nonneg _ (by omega), Int.emod_lt_of_pos _ (by omega)⟩, l0⟩
      · have o : ¬ l % 2 = 1 := fun z => e2 (decide_eq_true (congrArg V.int z))
        rw [if_neg o] at ek2
        refine ⟨_, rfl, _, rfl, _, _, rfl, rfl, .inl ⟨by omega, by omega⟩, _, rfl, _, _, rfl, rfl, (by omega), _, rfl, _, _, rfl, rfl, ⟨by decide, by decide⟩, _, _, rfl, ?_⟩
        exact ⟨⟨k, f, b * b % p, l / 2, rfl, s2, ek2, hl2, hf, hf2, Int.emod_nonneg _ (by omega), Int.emod_lt_of_pos _ (by omega)⟩, l0⟩
  · have h0 : ¬ 0 < l := fun z => e (decide_eq_true z)
    rw [unF_stop h0] at ek
    refine ⟨_, rfl, ?_⟩
    rw [ek]
    exact q _ s2
abbrev N_few : List Str := ["prime", "row", "k", "item"]
theorem sc_few : FnScope N_few ["prime", "row"] (defScope sd_few) := ⟨rfl, rfl, rfl, by decide +kernel, rfl, by decide +kernel, by decide +kernel⟩
theorem f_few (D : DefAt K mg "few" sd_few) (T : Txt K mg) : FnS P w K mg base CX0 1 "few" ["prime", "row"] (spFew K) :=
  mkFn D sc_few (fun _ _ _ _ _ _ us hl => match us, hl with | [_, _], _ => rfl) (fun vs H Q E ⟨_, _, _, e, _⟩ => by rw [e]; rfl) fun cdv A outer s H vs Q E hr ⟨p, a, xs, e, hx, hp, hz, q⟩ => by
  subst e
  refine ⟨_, (pss_one (ps_ret (pe_callTy (call_dictP rfl) (by rfl) T.dict_ bo_dict (pa_cons (pe_lc (own := [("k", 2), ("item", 3)]) (g := (gTup _ 2 (gCons (gName 2) (gCons (gName 3) gNil)))) rfl sc_few.nd (pi_enumS (by rfl) T.enumerate_ (pa_cons (pv 1) pa_nil)) (blkOk_by (N := N_few) (sc := defScope sd_few) (by decide +kernel)) (fun _ _ _ _ _ => (pg_tup rfl (pgs_cons (pg_name (i := 2) sc_few.nd rfl (.inl rfl)) (pgs_cons (pg_name (i := 3) sc_few.nd rfl (.inl rfl)) pgs_nil)))) (fun _ _ _ _ _ => (pts_one (pt_cmpR op_ne (pe_op op_mod (pv 3) (pv 0)) pe_int (nomark _)))) (fun _ _ _ _ _ => (pe_tup (pa_cons (pv 2) (pa_cons (pe_op op_mod (pv 3) (pv 0)) pa_nil))))) pa_nil)))), ?_⟩
  have get : ∀ {i : Nat} {z : V}, (xs.map V.int)[i]? = some z → z = .int (xs.getD i 0) ∧ i < xs.length := fun {i z} h => by
    rw [List.getElem?_map] at h
    cases e : xs[i]? with
    | none => rw [e] at h; cases h
    | some v =>
      rw [e] at h
      refine ⟨?_, (List.getElem?_eq_some_iff.mp e).1⟩
      rw [List.getD_eq_getElem?_getD, e]
      exact (Option.some.inj h).symm
  let f : Nat → Int := fun k => xs.getD k 0 % p
  have step : ∀ D i x H' (C : VK) (N : Hp → Prop), i < (xs.map V.int).length → (∃ T z, x = .ref T ∧ H' T = some (.tup [.int (i : Nat), z]) ∧ (xs.map V.int)[i]? = some z) → Same H H' → H D = none → (∃ acc, H' D = some (.lst acc)) →
      (∀ y H4, decide (f i ≠ 0) = true → Same H' H4 → (∃ T, y = V.ref T ∧ T ≠ D ∧ H4 T = some (.tup [.int (i : Nat), .int (f i)])) → C y H4) → (∀ H4, decide (f i ≠ 0) = false → Same H' H4 → N H4) →
      gTup K 2 (gCons (gName 2) (gCons (gName 3) gNil)) x (wipe (L2.start N_few [.int p, .ref a]) [2, 3]) H' fun σ2 H2 => wipe σ2 [2, 3] = wipe (L2.start N_few [.int p, .ref a]) [2, 3] ∧ tTest (tOp rNe (tOp (rI (fun _ j => 0 < j) fun i j => .int (i % j)) (tVar 3) (tVar 0)) (tC (.int 0))) σ2 H2 fun b H3 =>
        if b = true then tTup (tCons (tVar 2) (tCons (tOp (rI (fun _ j => 0 < j) fun i j => .int (i % j)) (tVar 3) (tVar 0)) tNil)) σ2 H3 C else N H3 := fun D i x H' C N hi it s1 hD ac kC kN => by
    obtain ⟨T, z, rfl, hT, hz⟩ := it
    obtain ⟨rfl, _⟩ := get hz
    obtain ⟨acc, hacc⟩ := ac
    refine ⟨T, _, rfl, SqT.of hT, rfl, _, _, rfl, _, _, rfl, rfl, rfl, ?_⟩
    refine ⟨_, rfl, _, rfl, _, _, rfl, rfl, hp, rfl, _, rfl, ite2 (fun e => ?_) fun e => ?_⟩
    · have nz : f i ≠ 0 := ne_tt e
      refine ⟨_, rfl, _, rfl, _, rfl, _, _, rfl, rfl, hp, (by show 2 ≤ sizeLine; decide), fun t ht => ?_⟩
      refine kC _ _ (decide_eq_true nz) (Same.new ht) ⟨t, rfl, ?_, upd_same⟩
      exact fun q => by rw [q, hacc] at ht; cases ht
    · refine kN _ ?_ (Same.refl _)
      have : f i = 0 := ne_ff e
      rw [this]
      rfl
  have done : ∀ D H' ys, Same H H' → H D = none → H' D = some (.lst ys) → Paired (fun i y => ∃ T, y = V.ref T ∧ T ≠ D ∧ H' T = some (.tup [.int (i : Nat), .int (f i)])) ((List.range (xs.map V.int).length).filter fun i => decide (f i ≠ 0)) ys →
      ∃ (a : Addr) (ps : List Addr) (kvs : List (Key × V)), [V.ref D] = [.ref a] ∧ SqL K H' a (ps.map V.ref) ∧ Paired (fun p kv => SqT K H' p [kV kv.1, kv.2]) ps kvs ∧ ∀ p, H' p = none → Q (.ref p) (upd H' p (.dK (mergeK [] kvs))) := fun D H' ys s1 hD e r => by
    have nd : ((List.range (xs.map V.int).length).filter fun i => decide (f i ≠ 0)).Nodup := List.nodup_range.filter _
    have nz : ∀ k ∈ (List.range (xs.map V.int).length).filter fun i => decide (f i ≠ 0), f k ≠ 0 := fun k hk => of_decide_eq_true (List.mem_filter.mp hk).2
    have all : ∀ k, f k ≠ 0 → k ∈ (List.range (xs.map V.int).length).filter fun i => decide (f i ≠ 0) := fun k hk => by
      refine List.mem_filter.mpr ⟨List.mem_range.mpr ?_, decide_eq_true hk⟩
      rw [List.length_map]
      refine Decidable.byContradiction fun q => hk ?_
      show xs.getD k 0 % p = 0
      rw [List.getD_eq_getElem?_getD, List.getElem?_eq_none (by omega)]
      exact Int.zero_emod p
    obtain ⟨ps, rfl, r2⟩ := pairs_dict (K := K) nd nz r
    refine ⟨D, ps, _, rfl, SqL.of e, r2, fun d hd => ?_⟩
    exact q _ d (s1.trans (Same.new hd)) (s1.free hd) ⟨_, upd_same, pairs_spk nd nz all⟩
  refine tcb1 ⟨_, rfl, a, rfl, hx.elim (fun hx => .inl ⟨⟨_, hx⟩, ?_⟩) fun hx => .inr ⟨⟨_, hx⟩, ?_⟩⟩
  · exact lc_walk (wk_enum (xs := xs.map V.int)) (fun i => decide (f i ≠ 0)) (fun D i y H => ∃ T, y = V.ref T ∧ T ≠ D ∧ H T = some (.tup [.int (i : Nat), .int (f i)])) (fun D i y H1 H2 b ⟨T, e, n, h⟩ => ⟨T, e, n, b _ _ n h⟩) (by rw [List.length_map]; exact hz) hx step done
  · exact lc_walk (wk_enumT (xs := xs.map V.int)) (fun i => decide (f i ≠ 0)) (fun D i y H => ∃ T, y = V.ref T ∧ T ≠ D ∧ H T = some (.tup [.int (i : Nat), .int (f i)])) (fun D i y H1 H2 b ⟨T, e, n, h⟩ => ⟨T, e, n, b _ _ n h⟩) (by rw [List.length_map]; exact hz) hx step done
abbrev N_whole_row : List Str := ["size", "sparse", "k"]
theorem sc_whole_row : FnScope N_whole_row ["size", "sparse"] (defScope sd_whole_row) := ⟨rfl, rfl, rfl, by decide +kernel, rfl, by decide +kernel, by decide +kernel⟩
theorem f_whole_row (D : DefAt K mg "whole_row" sd_whole_row) (T : Txt K mg) : FnS P w K mg base CX0 1 "whole_row" ["size", "sparse"] (spWholeRow K) :=
  mkFn D sc_whole_row (fun _ _ _ _ _ _ us hl => match us, hl with | [_, _], _ => rfl) (fun vs H Q E ⟨_, _, _, e, _⟩ => by rw [e]; rfl) fun cdv A outer s H vs Q E hr ⟨n, d, f, e, hd, hn, q⟩ => by
  subst e
  refine ⟨_, (pss_one (ps_ret (pe_callTy call_tuple_of (by rfl) T.tuple_ bo_tuple (pa_cons (pe_lc (own := [("k", 2)]) (g := (gName 2)) rfl sc_whole_row.nd (pi_range1 rfl T.range_ (pa_cons (pv 0) pa_nil)) (blkOk_by (N := N_whole_row) (sc := defScope sd_whole_row) (by decide +kernel)) (fun _ _ _ _ _ => (pg_name (i := 2) sc_whole_row.nd rfl (.inl rfl))) (fun _ _ _ _ _ => pts_nil) (fun _ _ _ _ _ => (pe_dget2 (hu_of hr) (pv 1) (pv 2) pe_int ⟨rfl, rfl, rfl, rfl⟩))) pa_nil)))), ?_⟩
  obtain ⟨kvs, hk, sp⟩ := hd
  refine tcb1 ⟨_, rfl, _, rfl, by omega, by omega, lc_walkV wk_range (fun i => .int (f i)) (Nat.lt_trans hn (by decide)) True.intro (fun D i x H' C hi it s1 hD ac k => ?_) fun D H' s1 hD e => ?_⟩
  · subst it
    have e0 : (0 : Int) + (i : Int) = (i : Int) := by omega
    refine ⟨rfl, _, rfl, d, rfl, .inl ⟨kvs, .inl (s1 _ _ hk)⟩, _, rfl, _, .inl ⟨kvs, kN i, .inl (s1 _ _ hk), by rw [e0]; rfl, rfl⟩, ?_⟩
    have := k H' (Same.refl _)
    rw [sp.val]
    by_cases z : f i = 0
    · rw [if_pos z]
      rw [z] at this
      exact this
    · rw [if_neg z]
      exact this
  · exact ⟨D, _, rfl, .inl ⟨SqL.of e, fun l hl => q _ l (s1.trans (Same.new hl)) (s1.free hl) (SqT.of (by rw [upd_same]; rfl))⟩⟩
end
end Kz
end
section
set_option Elab.async false
set_option linter.all false
set_option maxRecDepth 100000
set_option maxHeartbeats 4000000
/-! the solving, 2 -/
namespace Kz
open PySem PySem.Spec PyProof.Rows L2 KzM
def spLessened : Sp := fun vs H Q _ => ∃ (p : Int) (dr dx : Addr) (fr fo : Nat → Int) (m : Int) (l : List Nat), vs = [.int p, .ref dr, .ref dx, .int m] ∧ SpR H dr fr ∧ SpR H dx fo ∧ 0 < p ∧ (∀ k, fr k % p = fr k) ∧ (-(2 ^ 64) < m ∧ m < 2 ^ 64) ∧
  (∀ k, fr k ≠ 0 ∨ fo k ≠ 0 → k ∈ l) ∧ l.length < 10000 ∧ ∀ H' d, Same H H' → H d = none → SpR H' d (less p fr fo m) → Q (.ref d) H'
section
variable {P : Program} {w : World} {K : PySem.W.Frag} {mg : Str → Option Value} {base : Heap}
abbrev N_lessened : List Str := ["prime", "row", "other", "many", "found", "k", "item"]
theorem sc_lessened : FnScope N_lessened ["prime", "row", "other", "many"] (defScope sd_lessened) := ⟨rfl, rfl, rfl, by decide +kernel, rfl, by decide +kernel, by decide +kernel⟩
theorem f_lessened (D : DefAt K mg "lessened" sd_lessened) (T : Txt K mg) : FnS P w K mg base CX0 1 "lessened" ["prime", "row", "other", "many"] spLessened :=
  mkFn D sc_lessened (fun _ _ _ _ _ _ us hl => match us, hl with | [_, _, _, _], _ => rfl) (fun vs H Q E ⟨_, _, _, _, _, _, _, e, _⟩ => by rw [e]; rfl) fun cdv A outer s H vs Q E hr ⟨p, dr, dx, fr, fo, m, l, e, ⟨kr, hkr, spr⟩, ⟨ko, hko, spo⟩, hp, hfr, hm, hl, hll, q⟩ => by
  subst e
  refine ⟨_, (pss_cons (ps_set (i := 4) sc_lessened.nd rfl (.inl rfl) (pe_callTy call_dictD (by rfl) T.dict_ bo_dict (pa_cons (pv 1) pa_nil)))
      (pss_cons (ps_lock (ps_for (passes_of rfl) rfl (pi_keys (pv 2)) (pg_name (i := 5) sc_lessened.nd rfl (.inl rfl)) (pss_cons (ps_set (i := 6) sc_lessened.nd rfl (.inl rfl) (pe_op op_mod (pe_op op_sub (pe_dpop2 (pv 4) (pv 5) pe_int ⟨rfl, rfl, rfl, rfl⟩) (pe_op op_mul (pv 3) (pe_dget (hu_of hr) (pv 2) (pv 5) (fun _ _ => rfl)))) (pv 0)))
      (pss_one (ps_if (pt_cmpR op_ne (pv 6) pe_int (nomark _)) (pss_one (ps_dput (hu_of hr) (pv 4) (pv 5) (pv 6) rfl)) pss_nil)))))
      (pss_one (ps_ret (pv 4))))), ?_⟩
  have big : 10000 < sizeLine := by decide
  refine ⟨_, rfl, dr, kr, rfl, .inl hkr, fun D hD => ?_⟩
  have nDx : dx ≠ D := ne_of_none hko hD
  have s1 : Same H (upd H D (.dK kr)) := Same.new hD
  refine ⟨dx, .dK ko, s1 _ _ hko, True.intro, fun od => ?_⟩
  let less' : Nat → Nat → Int := fun i k => if (k : Int) ∈ keysTo ko i then less p fr fo m k else fr k
  refine ⟨_, rfl, dx, od, rfl, .inl ⟨ko, upd_same, ?_⟩⟩
  refine for_walk wk_keys (fun i σ H' => ∃ kvs xk xi, σ = [some (.int p), some (.ref dr), some (.ref dx), some (.int m), some (.ref D), xk, xi] ∧ H' D = some (.dK kvs) ∧ SpK kvs (less' i) ∧ H' dx = some (.frz od (.dK ko)) ∧ ∀ b o, b ≠ dx → H b = some o → H' b = some o)
    ⟨kr, none, none, rfl, by rw [upd_ne nDx.symm, upd_same], spr.congr fun k => (if_neg (List.not_mem_nil (a := (k : Int)))).symm, upd_same, fun b o nb e => by rw [upd_ne nb]; exact s1 _ _ e⟩
    (fun i σ H' hi ⟨_, _, _, _, _, _, h, _⟩ => h) (fun i x σ H1 H2 hi ⟨kvs, xk, xi, eσ, hD1, sp, hx1, fr1⟩ s2 ⟨key, v, hkv, ex⟩ => ?_) fun σ H1 ⟨kvs, xk, xi, eσ, hD1, sp, hx1, fr1⟩ => ?_
  · subst eσ ex
    obtain ⟨k, ekv, nz⟩ := spo.key _ (List.mem_of_getElem? hkv)
    obtain ⟨rfl, rfl⟩ := Prod.mk.inj ekv
    have notin : (k : Int) ∉ keysTo ko i := keysTo_not spo.nd hkv
    have gk : less' i k = fr k := if_neg notin
    have hD2 := s2 _ _ hD1
    have hx2 := s2 _ _ hx1
    have next : ∀ j, less' (i + 1) j = if j = k then less p fr fo m k else less' i j := fun j => by
      show (if (j : Int) ∈ keysTo ko (i + 1) then less p fr fo m j else fr j) = _
      rw [keysTo_succ hkv]
      by_cases e : j = k
      · rw [if_pos e, e, if_pos (by simp)]
      · rw [if_neg e]
        have : (j : Int) ∈ keysTo ko i ++ [(k : Int)] ↔ (j : Int) ∈ keysTo ko i := by
          rw [List.mem_append]
          constructor
          · rintro (h | h)
            · exact h
            · exact absurd (Int.ofNat.inj (List.mem_singleton.mp h)) e
          · exact .inl
        show (if (j : Int) ∈ keysTo ko i ++ [(k : Int)] then less p fr fo m j else fr j) = if (j : Int) ∈ keysTo ko i then less p fr fo m j else fr j
        by_cases q : (j : Int) ∈ keysTo ko i
        · rw [if_pos q, if_pos (this.mpr q)]
        · rw [if_neg q, if_neg fun z => q (this.mp z)]
    refine seq1 (asg1 (op1 (op1 (dpop2_sp (fun R h => ⟨_, rfl, h⟩) (fun R h => ⟨_, rfl, h⟩) (fun R h => h) hD2 sp fun H3 kv3 fr3 hD3 sp3 => ?_))))
    rw [gk]
    refine ⟨_, rfl, _, rfl, _, rfl, dx, _, rfl, .inl ⟨ko, kN k, .inr ⟨od, fr3 _ _ nDx hx2⟩, rfl, (spo.val_is nz).symm⟩, _, _, rfl, rfl, .inl hm, _, _, rfl, rfl, _, rfl, _, _, rfl, rfl, hp, ?_⟩
    refine ⟨_, rfl, rfl, _, rfl, ite2 (fun e => ?_) fun e => ?_⟩
    · have z : less p fr fo m k ≠ 0 := ne_tt e
      refine ⟨_, rfl, _, rfl, _, rfl, D, _, rfl, DPut.k (k := kN k) hD3 ?_, ?_⟩
      · refine Nat.lt_of_le_of_lt (sp3.len (l := l) fun j hj => hl j ?_) (Nat.lt_trans hll big)
        by_cases q : j = k
        · rw [if_pos q] at hj
          exact absurd rfl hj
        · rw [if_neg q] at hj
          by_cases q2 : (j : Int) ∈ keysTo ko i
          · obtain ⟨j2, v, _, e2⟩ := keysTo_mem q2
            obtain ⟨j3, e3, nz2⟩ := spo.key _ (List.mem_of_getElem? e2)
            have e4 : ((j : Nat) : Int) = j3 := Sum.inl.inj (congrArg Prod.fst e3)
            have : j = j3 := by omega
            rw [this]
            exact .inr nz2
          · exact .inl (by rw [show less' i j = fr j from if_neg q2] at hj; exact hj)
      · refine ⟨_, some (.int (k : Nat)), some (.int (less p fr fo m k)), rfl, upd_same, ?_, ?_, fun b o nb hb => ?_⟩
        · refine (sp3.put z (by rw [if_pos rfl])).congr fun j => ?_
          rw [next]
          by_cases q : j = k
          · rw [if_pos q, if_pos q]
          · rw [if_neg q, if_neg q, if_neg q]
        · rw [upd_ne nDx]
          exact fr3 _ _ nDx hx2
        · have nbD : b ≠ D := ne_of_none hb hD
          rw [upd_ne nbD]
          exact fr3 _ _ nbD (s2 _ _ (fr1 _ _ nb hb))
    · have z : less p fr fo m k = 0 := ne_ff e
      refine ⟨kv3, some (.int (k : Nat)), some (.int (less p fr fo m k)), rfl, hD3, sp3.congr fun j => ?_, fr3 _ _ nDx hx2, fun b o nb hb => fr3 _ _ (ne_of_none hb hD) (s2 _ _ (fr1 _ _ nb hb))⟩
      rw [next]
      by_cases q : j = k
      · rw [if_pos q, if_pos q, z]
      · rw [if_neg q, if_neg q]
  · subst eσ
    refine ⟨hx1, _, rfl, ?_⟩
    have all : ∀ k, less' ko.length k = less p fr fo m k := fun k => by
      show (if (k : Int) ∈ keysTo ko ko.length then less p fr fo m k else fr k) = _
      by_cases z : fo k = 0
      · rw [if_neg fun h => (keysTo_all spo k).mp h z]
        show fr k = (fr k - m * fo k) % p
        rw [z, Int.mul_zero, Int.sub_zero, hfr]
      · rw [if_pos ((keysTo_all spo k).mpr z)]
    refine q _ D (fun b o hb => ?_) hD ⟨kvs, by rw [upd_ne nDx.symm]; exact hD1, sp.congr all⟩
    by_cases e : b = dx
    · rw [e, upd_same]
      rw [e, hko] at hb
      exact hb
    · rw [upd_ne e]
      exact fr1 _ _ e hb
end
end Kz
end
section
set_option linter.all false
/-! the mathematics, 2: heads grow row by row; which spots have no head -/
namespace KzM
def Two (f : Nat → Int) : Prop := ∃ a b, ∀ k, f k ≠ 0 → k = a ∨ k = b
theorem two_less {p : Int} {f g : Nat → Int} {s : Nat} (hf : Two f) (fs : f s ≠ 0) (hg : Two g) (gs : g s ≠ 0) (z : less p f g (f s) s = 0) : Two (less p f g (f s)) := by
  have other : ∀ {f : Nat → Int}, Two f → f s ≠ 0 → ∃ b, ∀ k, k ≠ s → f k ≠ 0 → k = b := fun {f} ⟨a, b, h⟩ hs => by
    rcases h s hs with e | e
    · exact ⟨b, fun k nk hk => (h k hk).resolve_left fun q => nk (q.trans e.symm)⟩
    · exact ⟨a, fun k nk hk => (h k hk).resolve_right fun q => nk (q.trans e.symm)⟩
  obtain ⟨b, hb⟩ := other hf fs
  obtain ⟨c, hc⟩ := other hg gs
  refine ⟨b, c, fun k hk => ?_⟩
  have nk : k ≠ s := fun e => hk (by rw [e]; exact z)
  by_cases h1 : f k = 0
  · by_cases h2 : g k = 0
    · refine absurd ?_ hk
      show (f k - f s * g k) % p = 0
      rw [h1, h2, Int.mul_zero]
      exact Int.zero_emod p
    · exact .inr (hc k nk h2)
  · exact .inl (hb k nk h1)
theorem two_mul {p c : Int} {f : Nat → Int} (h : Two f) : Two (fun k => f k * c % p) := by
  obtain ⟨a, b, h⟩ := h
  refine ⟨a, b, fun k hk => h k fun z => hk ?_⟩
  show f k * c % p = 0
  rw [z, Int.zero_mul]
  exact Int.zero_emod p
/-! ### one row more -/
def scaled (p : Int) (f : Nat → Int) (back : Int) : Nat → Int := fun k => f k * back % p
def grown (p : Int) (L : List Head) (s : Nat) (g : Nat → Int) : List Head := L.map (fun h => (h.1, less p h.2 g (h.2 s))) ++ [(s, g)]
structure Fresh (p : Int) (n : Nat) (L : List Head) (f : Nat → Int) (s : Nat) (back : Int) : Prop where
  ok : RowOk p n f
  off : ∀ h ∈ L, f h.1 = 0
  nz : f s ≠ 0
  min : ∀ k, k < s → f k = 0
  inv : f s * back % p = 1
section
variable {p : Int} {n : Nat} {L : List Head} {f : Nat → Int} {s : Nat} {back : Int}
theorem Fresh.row (hp : 2 ≤ p) (F : Fresh p n L f s back) : RowOk p n (scaled p f back) where
  lo := fun k => Int.emod_nonneg _ (by omega)
  hi := fun k => Int.emod_lt_of_pos _ (by omega)
  out := fun k hk => by
    show f k * back % p = 0
    rw [F.ok.out k hk, Int.zero_mul]
    exact Int.zero_emod p
theorem Fresh.zero (F : Fresh p n L f s back) {k : Nat} (h : f k = 0) : scaled p f back k = 0 := by
  show f k * back % p = 0
  rw [h, Int.zero_mul]
  exact Int.zero_emod p
theorem Fresh.lt (F : Fresh p n L f s back) : s < n := Decidable.byContradiction fun h => F.nz (F.ok.out s (by omega))
theorem Fresh.new (F : Fresh p n L f s back) : ∀ h ∈ L, h.1 ≠ s := fun h hh e => F.nz (e ▸ F.off h hh)
theorem red_grown (hp : 2 ≤ p) (R : Red p n L) (F : Fresh p n L f s back) : Red p n (grown p L s (scaled p f back)) := by
  have gs : scaled p f back s = 1 := F.inv
  have g0 : ∀ h ∈ L, scaled p f back h.1 = 0 := fun h hh => F.zero (F.off h hh)
  have rg := F.row hp
  have mem : ∀ h ∈ grown p L s (scaled p f back), (∃ h0 ∈ L, h = (h0.1, less p h0.2 (scaled p f back) (h0.2 s))) ∨ h = (s, scaled p f back) := fun h hh => by
    rcases List.mem_append.mp hh with hh | hh
    · obtain ⟨h0, m, e⟩ := List.mem_map.mp hh
      exact .inl ⟨h0, m, e.symm⟩
    · exact .inr (by simpa using hh)
  have at1 : ∀ h0 ∈ L, less p h0.2 (scaled p f back) (h0.2 s) h0.1 = 1 := fun h0 m => by
    show (h0.2 h0.1 - h0.2 s * scaled p f back h0.1) % p = 1
    rw [g0 h0 m, Int.mul_zero, Int.sub_zero, R.one h0 m]
    exact Int.emod_eq_of_lt (by omega) (by omega)
  refine ⟨?_, fun h hh => ?_, fun h hh => ?_, fun h hh => ?_, fun h hh k hk => ?_, fun h hh g hg ne => ?_⟩
  · have e : (grown p L s (scaled p f back)).map (·.1) = L.map (·.1) ++ [s] := by
      unfold grown
      rw [List.map_append, List.map_map]
      rfl
    rw [e, List.nodup_append]
    refine ⟨R.nd, by simp, fun a ha b hb e => ?_⟩
    have hb : b = s := by simpa using hb
    obtain ⟨h, m, e2⟩ := List.mem_map.mp ha
    exact F.new h m (e2.trans (e.trans hb))
  · rcases mem h hh with ⟨h0, m, e⟩ | e
    · rw [e]
      exact R.lt h0 m
    · rw [e]
      exact F.lt
  · rcases mem h hh with ⟨h0, m, e⟩ | e
    · rw [e]
      exact rowOk_less (by omega) (R.ok h0 m) rg _
    · rw [e]
      exact rg
  · rcases mem h hh with ⟨h0, m, e⟩ | e
    · rw [e]
      exact at1 h0 m
    · rw [e]
      exact gs
  · rcases mem h hh with ⟨h0, m, e⟩ | e
    · rw [e] at hk ⊢
      show (h0.2 k - h0.2 s * scaled p f back k) % p = 0
      have hk : k < h0.1 := hk
      rw [R.low h0 m k hk]
      by_cases z : h0.2 s = 0
      · rw [z, Int.zero_mul]
        exact Int.zero_emod p
      · have : h0.1 ≤ s := Decidable.byContradiction fun q => z (R.low h0 m s (by omega))
        rw [F.zero (F.min k (by omega)), Int.mul_zero]
        exact Int.zero_emod p
    · rw [e] at hk ⊢
      exact F.zero (F.min k hk)
  · rcases mem h hh with ⟨h0, m, e⟩ | e
    · rcases mem g hg with ⟨h1, m1, e1⟩ | e1
      · rw [e, e1] at ne ⊢
        show (h0.2 h1.1 - h0.2 s * scaled p f back h1.1) % p = 0
        rw [R.oth h0 m h1 m1 ne, g0 h1 m1, Int.mul_zero]
        exact Int.zero_emod p
      · rw [e, e1]
        show (h0.2 s - h0.2 s * scaled p f back s) % p = 0
        rw [gs, Int.mul_one, Int.sub_self]
        exact Int.zero_emod p
    · rcases mem g hg with ⟨h1, m1, e1⟩ | e1
      · rw [e, e1]
        exact g0 h1 m1
      · rw [e, e1] at ne
        exact absurd rfl ne
theorem van_scaled (inv : f s * back % p = 1) {u : Nat → Int} : Van p n u (scaled p f back) ↔ Van p n u f := by
  have e1 : Van p n u (scaled p f back) ↔ Van p n u (fun k => back * f k) := by
    have : scaled p f back = fun k => (back * f k) % p := by
      funext k
      show f k * back % p = _
      rw [Int.mul_comm]
    rw [this]
    exact van_mod
  rw [e1]
  unfold Van
  rw [dot_mul]
  constructor
  · intro h
    have h2 : p ∣ f s * (back * dot n u f) := Int.dvd_trans h ⟨f s, Int.mul_comm _ _⟩
    have e2 : f s * back = 1 + p * (f s * back / p) := by
      have := Int.emod_add_mul_ediv (f s * back) p
      omega
    have e3 : f s * (back * dot n u f) = dot n u f + p * ((f s * back / p) * dot n u f) := by
      rw [← Int.mul_assoc, e2, Int.add_mul, Int.one_mul, Int.mul_assoc, ← e2]
    rw [e3] at h2
    have := Int.dvd_sub h2 (⟨_, rfl⟩ : p ∣ p * ((f s * back / p) * dot n u f))
    rw [Int.add_sub_cancel] at this
    exact this
  · exact fun h => Int.dvd_trans h ⟨back, Int.mul_comm _ _⟩
theorem ann_grown (F : Fresh p n L f s back) {u : Nat → Int} : Ann p n (grown p L s (scaled p f back)) u ↔ (Ann p n L u ∧ Van p n u f) := by
  constructor
  · intro h
    have hg : Van p n u (scaled p f back) := h (s, scaled p f back) (List.mem_append_right _ List.mem_cons_self)
    refine ⟨fun h0 m => ?_, (van_scaled F.inv).mp hg⟩
    have := h _ (List.mem_append_left _ (List.mem_map.mpr ⟨h0, m, rfl⟩))
    exact (van_less _ hg).mp this
  · rintro ⟨h, hf⟩ h1 m1
    have hg : Van p n u (scaled p f back) := (van_scaled F.inv).mpr hf
    rcases List.mem_append.mp m1 with m | m
    · obtain ⟨h0, m0, e⟩ := List.mem_map.mp m
      rw [← e]
      exact (van_less _ hg).mpr (h h0 m0)
    · have : h1 = (s, scaled p f back) := by simpa using m
      rw [this]
      exact hg
theorem two_grown (hp : 2 ≤ p) (R : Red p n L) (F : Fresh p n L f s back) (t : Two f) (tl : ∀ h ∈ L, Two h.2) : ∀ h ∈ grown p L s (scaled p f back), Two h.2 := fun h hh => by
  have gs : scaled p f back s = 1 := F.inv
  rcases List.mem_append.mp hh with m | m
  · obtain ⟨h0, m0, e⟩ := List.mem_map.mp m
    rw [← e]
    by_cases z : h0.2 s = 0
    · have : less p h0.2 (scaled p f back) (h0.2 s) = h0.2 := by
        funext k
        show (h0.2 k - h0.2 s * scaled p f back k) % p = h0.2 k
        rw [z, Int.zero_mul, Int.sub_zero]
        exact (R.ok h0 m0).mod k
      rw [this]
      exact tl h0 m0
    · refine two_less (tl h0 m0) z (two_mul t) (by rw [gs]; decide) ?_
      show (h0.2 s - h0.2 s * scaled p f back s) % p = 0
      rw [gs, Int.mul_one, Int.sub_self]
      exact Int.zero_emod p
  · have : h = (s, scaled p f back) := by simpa using m
    rw [this]
    exact two_mul t
end
theorem scaled_nz {p : Int} {n : Nat} {L : List Head} {f : Nat → Int} {s : Nat} {back : Int} (F : Fresh p n L f s back) {k : Nat} (h : f k ≠ 0) : scaled p f back k ≠ 0 := fun z => by
  have d : p ∣ f k * back := Int.dvd_of_emod_eq_zero z
  have e2 : f s * back = 1 + p * (f s * back / p) := by
    have := Int.emod_add_mul_ediv (f s * back) p
    have := F.inv
    omega
  have d2 : p ∣ f k * (f s * back) := by
    have : f k * (f s * back) = f s * (f k * back) := by
      rw [← Int.mul_assoc, Int.mul_comm (f k) (f s), Int.mul_assoc]
    rw [this]
    exact Int.dvd_trans d ⟨f s, Int.mul_comm _ _⟩
  rw [e2, Int.mul_add, Int.mul_one] at d2
  have d3 : p ∣ f k * (p * (f s * back / p)) := ⟨f k * (f s * back / p), by rw [← Int.mul_assoc, Int.mul_comm (f k) p, Int.mul_assoc]⟩
  have d4 := Int.dvd_sub d2 d3
  rw [Int.add_sub_cancel] at d4
  have := F.ok.lo k
  have := F.ok.hi k
  have := Int.le_of_dvd (by omega) d4
  omega
/-! ### which spots have no head -/
theorem sumN_two {f : Nat → Int} {a b : Nat} (ne : a ≠ b) : ∀ {n : Nat}, a < n → b < n → (∀ k, k < n → k ≠ a → k ≠ b → f k = 0) → sumN n f = f a + f b
  | 0, h, _, _ => absurd h (Nat.not_lt_zero a)
  | n + 1, ha, hb, z => by
    show sumN n f + f n = f a + f b
    by_cases ea : a = n
    · rw [sumN_one (a := b) (by omega) fun k hk nk => z k (Nat.lt_succ_of_lt hk) (by omega) nk, ea]
      omega
    · by_cases eb : b = n
      · rw [sumN_one (a := a) (by omega) fun k hk nk => z k (Nat.lt_succ_of_lt hk) nk (by omega), eb]
      · rw [sumN_two ne (by omega) (by omega) fun k hk h1 h2 => z k (Nat.lt_succ_of_lt hk) h1 h2, z n (Nat.lt_succ_self n) (fun q => ea q.symm) fun q => eb q.symm]
        omega
theorem no_head {p : Int} {n : Nat} {L : List Head} (hp : 2 ≤ p) (R : Red p n L) {s : Nat} (hs : s < n) :
    s ∉ L.map (·.1) ↔ ∃ u, Ann p n L u ∧ ¬ p ∣ u s ∧ ∀ t, s < t → t < n → p ∣ u t := by
  constructor
  · intro no
    let u : Nat → Int := fun k => if k = s then 1 else match L.find? (fun h => h.1 == k) with
      | some h => - h.2 s
      | none => 0
    have us : u s = 1 := if_pos rfl
    have uh : ∀ h ∈ L, u h.1 = - h.2 s := fun h hh => by
      have ne : h.1 ≠ s := fun e => no (List.mem_map.mpr ⟨h, hh, e⟩)
      show (if h.1 = s then 1 else _) = _
      rw [if_neg ne]
      cases e : L.find? (fun g => g.1 == h.1) with
      | none =>
        have := List.find?_eq_none.mp e h hh
        simp at this
      | some g =>
        have m := List.mem_of_find?_eq_some e
        have q : g.1 = h.1 := by simpa using List.find?_some e
        have : g = h := by
          obtain ⟨i, hi, ei⟩ := List.getElem_of_mem m
          obtain ⟨j, hj, ej⟩ := List.getElem_of_mem hh
          have nd := List.pairwise_iff_getElem.mp R.nd
          rcases Nat.lt_trichotomy i j with l | l | l
          · have := nd i j (by simpa using hi) (by simpa using hj) l
            simp [ei, ej, q] at this
          · subst l
            exact ei.symm.trans ej
          · have := nd j i (by simpa using hj) (by simpa using hi) l
            simp [ei, ej, q] at this
        rw [this]
    have uo : ∀ k, k ≠ s → k ∉ L.map (·.1) → u k = 0 := fun k ne hk => by
      show (if k = s then 1 else _) = _
      rw [if_neg ne]
      cases e : L.find? (fun g => g.1 == k) with
      | none => rfl
      | some g =>
        refine absurd (List.mem_map.mpr ⟨g, List.mem_of_find?_eq_some e, ?_⟩) hk
        simpa using List.find?_some e
    refine ⟨u, fun h hh => ?_, ?_, fun t h1 h2 => ?_⟩
    · have ne : s ≠ h.1 := fun e => no (List.mem_map.mpr ⟨h, hh, e.symm⟩)
      have : dot n u h.2 = 0 := by
        unfold dot
        rw [sumN_two ne hs (R.lt h hh) fun k hk h1 h2 => ?_]
        · rw [us, uh h hh, R.one h hh]
          omega
        · by_cases m : k ∈ L.map (·.1)
          · obtain ⟨g, mg, e⟩ := List.mem_map.mp m
            rw [← e, R.oth h hh g mg (by rw [e]; exact h2), Int.mul_zero]
          · rw [uo k h1 m, Int.zero_mul]
      unfold Van
      rw [this]
      exact ⟨0, (Int.mul_zero p).symm⟩
    · rw [us]
      rintro ⟨c, e⟩
      have : c ∣ 1 := ⟨p, by rw [Int.mul_comm]; exact e⟩
      have h1 := Int.le_of_dvd (by decide) (⟨c, e⟩ : p ∣ 1)
      omega
    · by_cases m : t ∈ L.map (·.1)
      · obtain ⟨g, mg, e⟩ := List.mem_map.mp m
        rw [← e, uh g mg, R.low g mg s (by rw [e]; exact h1)]
        exact ⟨0, by simp⟩
      · rw [uo t (by omega) m]
        exact ⟨0, by simp⟩
  · rintro ⟨u, ha, hu, ht⟩ m
    obtain ⟨h, mh, e⟩ := List.mem_map.mp m
    refine hu ?_
    have v := ha h mh
    have : dot n u h.2 = u s + sumN n (fun k => if k = s then 0 else u k * h.2 k) := by
      have e2 : dot n u h.2 = sumN n (fun k => (if k = s then u s else 0) + (if k = s then 0 else u k * h.2 k)) := by
        unfold dot
        refine sumN_congr fun k _ => ?_
        by_cases q : k = s
        · rw [if_pos q, if_pos q, q]
          have := R.one h mh
          rw [e] at this
          rw [this]
          omega
        · rw [if_neg q, if_neg q]
          omega
      rw [e2, sumN_add, sumN_one (a := s) hs fun k _ nk => if_neg nk, if_pos rfl]
    have d : p ∣ sumN n (fun k => if k = s then 0 else u k * h.2 k) := sumN_dvd fun k hk => by
      by_cases q : k = s
      · rw [if_pos q]
        exact ⟨0, by simp⟩
      · rw [if_neg q]
        by_cases l : k < s
        · rw [R.low h mh k (by rw [e]; exact l), Int.mul_zero]
          exact ⟨0, by simp⟩
        · exact Int.dvd_trans (ht k (by omega) hk) ⟨h.2 k, rfl⟩
    unfold Van at v
    rw [this] at v
    have := Int.dvd_sub v d
    rw [Int.add_sub_cancel] at this
    exact this
end KzM
end
section
set_option Elab.async false
set_option linter.all false
set_option maxRecDepth 100000
set_option maxHeartbeats 4000000
/-! the solving, 3 -/
namespace Kz
open PySem PySem.Spec PyProof.Rows L2 KzM
def spCleared : Sp := fun vs H Q _ => ∃ (p : Int) (dr D : Addr) (f : Nat → Int) (L : List Head) (n : Nat), vs = [.int p, .ref dr, .ref D] ∧ SpR H dr f ∧ HdR H D L ∧ 2 ≤ p ∧ p ≤ 97 ∧ n ≤ 1000 ∧ Red p n L ∧ (∀ h ∈ L, Two h.2) ∧ RowOk p n f ∧ Two f ∧
  ∀ H' d f', Same H H' → H d = none → SpR H' d f' → Clr p n L f f' → (∀ h ∈ L, f' h.1 = 0) → Two f' → Q (.ref d) H'
/-- [k for k in sorted(found) if k in heads] -/
theorem spots_read {K : PySem.W.Frag} {H : Hp} {D d : Addr} {L : List Head} {f : Nat → Int} {x0 x1 x4 x5 : Option V} {E : Ends} (hD : HdR H D L) (nd : (L.map (·.1)).Nodup) (hd : SpR H d f) (tf : Two f)
    (h : ∀ H' sp (ns : List Int), Same H H' → SqL K H' sp (ns.map V.int) → (∀ z ∈ ns, ∃ h ∈ L, z = (h.1 : Int) ∧ f h.1 ≠ 0) → (∀ h ∈ L, f h.1 ≠ 0 → (h.1 : Int) ∈ ns) → E.nx [x0, x1, some (.ref D), some (.ref d), some (.ref sp), x5] H') :
    tAsg (tLc (iList K (tCB (fun xs H Q => ∃ (a : Addr) (kvs : List (Key × V)) (ks : List Int), xs = [.ref a] ∧ Rd H a (.dK kvs) ∧ kvs.map (·.1) = ks.map Sum.inl ∧ ks.length < 64 ∧
      ∀ (ys : List Int) (p : Addr), ys.Perm ks → ys.Pairwise (· ≤ ·) → H p = none → Q (.ref p) (upd H p (.lst (ys.map V.int)))) (tCons (tVar 3) tNil))) (gName 5) (tB (tDIn (tVar 5) (tVar 2))) (tVar 5) [5]) (gName 4) E [x0, x1, some (.ref D), some (.ref d), x4, x5] H := by
  obtain ⟨kd, hkd, sp⟩ := hd
  obtain ⟨kh, hkh, hk⟩ := hD
  obtain ⟨a, b, tab⟩ := tf
  have l2 : kd.length ≤ 2 := sp.len (l := [a, b]) fun k hk => by
    rcases tab k hk with e | e
    · rw [e]; simp
    · rw [e]; simp
  refine asg1 ⟨_, rfl, d, kd, keysTo kd kd.length, rfl, .inl hkd, keysI sp, by rw [keysI_len sp]; omega, fun ys q hperm hs hq => ?_⟩
  have s1 : Same H (upd H q (.lst (ys.map V.int))) := Same.new hq
  have len : ys.length ≤ 2 := by rw [hperm.length_eq, keysI_len sp]; exact l2
  have get : ∀ {i : Nat} {x : V}, (ys.map V.int)[i]? = some x → x = .int (ys.getD i 0) ∧ ys.getD i 0 ∈ ys := fun {i x} h => by
    rw [List.getElem?_map] at h
    cases e : ys[i]? with
    | none => rw [e] at h; cases h
    | some v =>
      rw [e] at h
      rw [List.getD_eq_getElem?_getD, e]
      exact ⟨(Option.some.inj h).symm, List.mem_of_getElem? e⟩
  refine ⟨q, rfl, ⟨_, SqL.of upd_same⟩, lc_walkF (wk_list (K := K) (a := q) (xs := ys.map V.int)) (fun i => (valV kh (.inl (ys.getD i 0))).isSome) (fun i => .int (ys.getD i 0)) (by rw [List.length_map]; exact Nat.lt_of_le_of_lt len (by decide)) (SqL.of upd_same) (fun D2 i x H' C N hi hx s2 hD2 ac kC kN => ?_) fun D2 H' s2 hD2 e2 => ?_⟩
  · obtain ⟨rfl, _⟩ := get hx
    refine ⟨rfl, _, rfl, _, rfl, D, _, rfl, .inl ⟨kh, .inl (ys.getD i 0), .inl (s2 _ _ (s1 _ _ hkh)), rfl, rfl⟩, _, rfl, ite2 (fun e => ?_) fun e => ?_⟩
    · exact ⟨_, rfl, kC _ e (Same.refl _)⟩
    · exact kN _ (by simpa using e) (Same.refl _)
  · refine h H' D2 (((List.range (ys.map V.int).length).filter fun i => (valV kh (.inl (ys.getD i 0))).isSome).map fun i => ys.getD i 0) (s1.trans s2) (SqL.of (by rw [e2, List.map_map]; rfl)) (fun z hz => ?_) fun hd mh fz => ?_
    · obtain ⟨i, hi, ez⟩ := List.mem_map.mp hz
      obtain ⟨hr, hv⟩ := List.mem_filter.mp hi
      have hi2 : i < ys.length := by simpa using hr
      have mem : z ∈ keysTo kd kd.length := by
        rw [← ez]
        have : ys.getD i 0 ∈ ys := by
          rw [List.getD_eq_getElem?_getD, List.getElem?_eq_getElem hi2]
          exact List.getElem_mem hi2
        exact hperm.mem_iff.mp this
      obtain ⟨j, v, _, ej⟩ := keysTo_mem mem
      obtain ⟨k, ek, nz⟩ := sp.key _ (List.mem_of_getElem? ej)
      have zk : z = (k : Int) := Sum.inl.inj (congrArg Prod.fst ek)
      rw [ez, zk] at hv
      cases hs2 : valV kh (kN k) with
      | none => rw [show (Sum.inl (k : Int) : Key) = kN k from rfl, hs2] at hv; cases hv
      | some u =>
        have m := valV_in hs2
        rw [hk.keys] at m
        obtain ⟨hd, mh, e⟩ := List.mem_map.mp m
        have : hd.1 = k := kN_inj e
        exact ⟨hd, mh, by rw [this]; exact zk, by rw [this]; exact nz⟩
    · have m1 : (hd.1 : Int) ∈ ys := hperm.mem_iff.mpr ((keysTo_all sp hd.1).mpr fz)
      obtain ⟨i, hi, ei⟩ := List.getElem_of_mem m1
      have gd : ys.getD i 0 = (hd.1 : Int) := by
        rw [List.getD_eq_getElem?_getD, List.getElem?_eq_getElem hi]
        exact ei
      refine List.mem_map.mpr ⟨i, List.mem_filter.mpr ⟨by simpa using hi, ?_⟩, gd⟩
      rw [gd]
      obtain ⟨ad, e, _⟩ := hk.val_is nd mh
      show (valV kh (kN hd.1)).isSome = true
      rw [e]
      rfl
section
variable {P : Program} {w : World} {K : PySem.W.Frag} {mg : Str → Option Value} {base : Heap}
abbrev N_cleared : List Str := ["prime", "row", "heads", "found", "spots", "k"]
theorem sc_cleared : FnScope N_cleared ["prime", "row", "heads"] (defScope sd_cleared) := ⟨rfl, rfl, rfl, by decide +kernel, rfl, by decide +kernel, by decide +kernel⟩
theorem f_cleared (D : DefAt K mg "cleared" sd_cleared) (T : Txt K mg) (f_lessened : FnS P w K mg base CX0 1 "lessened" ["prime", "row", "other", "many"] spLessened) : FnS P w K mg base CX0 2 "cleared" ["prime", "row", "heads"] spCleared :=
  mkFn D sc_cleared (fun _ _ _ _ _ _ us hl => match us, hl with | [_, _, _], _ => rfl) (fun vs H Q E ⟨_, _, _, _, _, _, e, _⟩ => by rw [e]; rfl) fun cdv A outer s H vs Q E hr ⟨p, dr, D, f, L, n, e, ⟨kr, hkr, spr⟩, hD, hp2, hp97, hn, R, tl, rf, tf, q⟩ => by
  subst e
  refine ⟨_, (pss_cons (ps_set (i := 3) sc_cleared.nd rfl (.inl rfl) (pe_callTy call_dictD (by rfl) T.dict_ bo_dict (pa_cons (pv 1) pa_nil)))
      (pss_cons (ps_setLc (i := 4) (own := [("k", 5)]) (g := (gName 5)) rfl sc_cleared.nd rfl rfl (sw_true rfl rfl rfl (by decide +kernel)) (pi_list (pe_callB (call_sortedDI rfl) (by rfl) T.sorted_ bo_sorted (pa_cons (pv 3) pa_nil))) (blkOk_by (N := N_cleared) (sc := defScope sd_cleared) (by decide +kernel)) (fun _ _ _ _ _ => (pg_name (i := 5) sc_cleared.nd rfl (.inl rfl))) (fun _ _ _ _ _ => (pts_one (pt_cmp (pc_din (hu_of hr) (pv 5) (pv 2)) rfl))) (fun _ _ _ _ _ => (pv 5)))
      (pss_cons (ps_while (passes_of rfl) (pt_cmpR (op_neD hr.units) (pv 4) (pe_lst pa_nil) (nomark _)) (pss_cons (ps_set (i := 3) sc_cleared.nd rfl (.inl rfl) (pe_call f_lessened.ok (hr.mono (by decide)) rfl f_lessened.g f_lessened.kp f_lessened.b .nil pass0 (pa_cons (pv 0) (pa_cons (pv 3) (pa_cons (pe_dget (hu_of hr) (pv 2) (pe_ix ix_list (pv 4) pe_int (fun _ _ => rfl)) (fun _ _ => rfl)) (pa_cons (pe_dget (hu_of hr) (pv 3) (pe_ix ix_list (pv 4) pe_int (fun _ _ => rfl)) (fun _ _ => rfl)) pa_nil))))))
      (pss_one (ps_setLc (i := 4) (own := [("k", 5)]) (g := (gName 5)) rfl sc_cleared.nd rfl rfl (sw_true rfl rfl rfl (by decide +kernel)) (pi_list (pe_callB (call_sortedDI rfl) (by rfl) T.sorted_ bo_sorted (pa_cons (pv 3) pa_nil))) (blkOk_by (N := N_cleared) (sc := defScope sd_cleared) (by decide +kernel)) (fun _ _ _ _ _ => (pg_name (i := 5) sc_cleared.nd rfl (.inl rfl))) (fun _ _ _ _ _ => (pts_one (pt_cmp (pc_din (hu_of hr) (pv 5) (pv 2)) rfl))) (fun _ _ _ _ _ => (pv 5))))))
      (pss_one (ps_ret (pv 3)))))), ?_⟩
  refine ⟨_, rfl, dr, kr, rfl, .inl hkr, fun d hd => ?_⟩
  dsimp only
  have s1 : Same H (upd H d (.dK kr)) := Same.new hd
  refine seq1 (spots_read (hD.mono s1) R.nd ⟨kr, upd_same, spr⟩ tf fun H1 sp ns s2 hsp hn1 hn2 => ?_)
  dsimp only
  refine seq1 ⟨fun m σ H' => ∃ (d : Addr) (sp : Addr) (f' : Nat → Int) (ns : List Int) (x5 : Option V), m = left L f' ∧ σ = [some (.int p), some (.ref dr), some (.ref D), some (.ref d), some (.ref sp), x5] ∧ Same H H' ∧ H d = none ∧ SpR H' d f' ∧ Clr p n L f f' ∧ Two f' ∧
    SqL K H' sp (ns.map V.int) ∧ (∀ z ∈ ns, ∃ h ∈ L, z = (h.1 : Int) ∧ f' h.1 ≠ 0) ∧ (∀ h ∈ L, f' h.1 ≠ 0 → (h.1 : Int) ∈ ns), ⟨_, d, sp, f, ns, _, rfl, rfl, s1.trans s2, hd, SpR.mono s2 ⟨kr, upd_same, spr⟩, clr_start rf, tf, hsp, hn1, hn2⟩, ?_⟩
  rintro m σ H2 ⟨d2, sp2, f2, ns2, x5, rfl, rfl, s3, hd2, sr2, clr, tf2, hsp2, hm1, hm2⟩
  refine ⟨_, rfl, Nat.zero_le _, fun o ho => ne_nilI (ns := ns2) ((Same.new ho).seq hsp2) (SqL.of upd_same) ⟨_, rfl, ?_⟩⟩
  have s4 : Same H2 (upd H2 o (.lst [])) := Same.new ho
  cases ns2 with
  | nil =>
    refine ⟨_, rfl, ?_⟩
    exact q _ d2 f2 (s3.trans s4) hd2 (sr2.mono s4) clr (fun h hh => Decidable.byContradiction fun z => List.not_mem_nil (hm2 h hh z)) tf2
  | cons z ns2 =>
    obtain ⟨h, mh, rfl, fz⟩ := hm1 z List.mem_cons_self
    refine ⟨_, fun σ' H' h => h, ?_⟩
    obtain ⟨kh, hkh, hk⟩ := (hD.mono (s3.trans s4))
    obtain ⟨ah, eh, nah, sph⟩ := hk.val_is R.nd mh
    obtain ⟨k2, ek2, spk2⟩ := sr2.mono s4
    have at0 : atI (((h.1 : Int) :: ns2).map V.int) 0 = some (.int (h.1 : Nat)) := atI_nat (j := 0) rfl
    have b0 := clr.ok.lo h.1
    have b1 := clr.ok.hi h.1
    have t2 := two_less tf2 fz (tl h mh) (by rw [R.one h mh]; decide) (step_at R clr mh)
    refine ⟨_, rfl, _, rfl, _, rfl, _, rfl, sp2, _, 0, _, rfl, rfl, s4.seq hsp2, at0, D, _, rfl, .inl ⟨kh, kN h.1, .inl hkh, rfl, eh.symm⟩, _, rfl, _, rfl, sp2, _, 0, _, rfl, rfl, s4.seq hsp2, at0, d2, _, rfl, .inl ⟨k2, kN h.1, .inl ek2, rfl, (spk2.val_is fz).symm⟩, ?_⟩
    obtain ⟨a2, b2, tab2⟩ := tf2
    obtain ⟨a3, b3, tab3⟩ := tl h mh
    refine ⟨p, d2, ah, f2, h.2, f2 h.1, [a2, b2, a3, b3], rfl, ⟨k2, ek2, spk2⟩, sph, by omega, fun k => clr.ok.mod k, ⟨by omega, by omega⟩, fun k hk => ?_, by show 4 < 10000; decide, fun H3 d3 s5 hd3 sp3 => ?_⟩
    · rcases hk with hk | hk
      · rcases tab2 k hk with e | e <;> simp [e]
      · rcases tab3 k hk with e | e <;> simp [e]
    · have s6 := (s3.trans s4).trans s5
      dsimp only
      refine spots_read (hD.mono s6) R.nd sp3 t2 fun H4 sp4 ns4 s7 hsp4 hq1 hq2 => ?_
      exact ⟨_, left_step R clr mh fz, d3, sp4, _, ns4, _, rfl, rfl, s6.trans s7, (s3.trans s4).free hd3, sp3.mono s7, clr_step (by omega) R clr mh, t2, hsp4, hq1, hq2⟩
end
end Kz
end
section
set_option Elab.async false
set_option linter.all false
set_option maxRecDepth 100000
set_option maxHeartbeats 4000000
/-! the solving, 4 -/
namespace Kz
open PySem PySem.Spec PyProof.Rows L2 KzM
def Mix (p : Int) (L : List Head) (s : Nat) (g : Nat → Int) (i : Nat) : List Head := (L.take i).map (fun h => (h.1, less p h.2 g (h.2 s))) ++ L.drop i
theorem mix_zero {p : Int} {L : List Head} {s : Nat} {g : Nat → Int} : Mix p L s g 0 = L := rfl
theorem mix_all {p : Int} {L : List Head} {s : Nat} {g : Nat → Int} : Mix p L s g L.length ++ [(s, g)] = grown p L s g := by
  unfold Mix grown
  rw [List.take_length, List.drop_length, List.append_nil]
theorem mix_len {p : Int} {L : List Head} {s : Nat} {g : Nat → Int} {i : Nat} (hi : i ≤ L.length) : (Mix p L s g i).length = L.length := by
  unfold Mix
  rw [List.length_append, List.length_map, List.length_take, List.length_drop]
  omega
theorem mix_keys {p : Int} {L : List Head} {s : Nat} {g : Nat → Int} {i : Nat} : (Mix p L s g i).map (·.1) = L.map (·.1) := by
  unfold Mix
  rw [List.map_append, List.map_map]
  show (L.take i).map (fun h => h.1) ++ (L.drop i).map (·.1) = L.map (·.1)
  rw [← List.map_append, List.take_append_drop]
theorem mix_at {p : Int} {L : List Head} {s : Nat} {g : Nat → Int} {i : Nat} {h : Head} (e : L[i]? = some h) : (Mix p L s g i)[i]? = some h := by
  have hi := (List.getElem?_eq_some_iff.mp e).1
  unfold Mix
  rw [List.getElem?_append_right (by rw [List.length_map, List.length_take]; omega), List.length_map, List.length_take, List.getElem?_drop]
  have : i + (i - min i L.length) = i := by omega
  rw [this]
  exact e
theorem mix_next {p : Int} {L : List Head} {s : Nat} {g : Nat → Int} {i : Nat} {h : Head} (e : L[i]? = some h) : Mix p L s g (i + 1) = (Mix p L s g i).set i (h.1, less p h.2 g (h.2 s)) := by
  have hi := (List.getElem?_eq_some_iff.mp e).1
  unfold Mix
  have l : ((L.take i).map fun h => (h.1, less p h.2 g (h.2 s))).length = i := by
    rw [List.length_map, List.length_take]
    omega
  rw [List.take_add_one, e, List.map_append, List.append_assoc, List.set_append_right _ _ (by rw [l]; exact Nat.le_refl _), l, Nat.sub_self, List.drop_eq_getElem_cons hi]
  have : L[i] = h := Option.some.inj ((List.getElem?_eq_getElem hi).symm.trans e)
  rw [this]
  rfl
theorem mix_stay {p : Int} {n : Nat} {L : List Head} {s : Nat} {g : Nat → Int} {i : Nat} {h : Head} (R : Red p n L) (e : L[i]? = some h) (z : h.2 s = 0) : Mix p L s g (i + 1) = Mix p L s g i := by
  rw [mix_next e]
  have : (h.1, less p h.2 g (h.2 s)) = h := by
    have : less p h.2 g (h.2 s) = h.2 := by
      funext k
      show (h.2 k - h.2 s * g k) % p = h.2 k
      rw [z, Int.zero_mul, Int.sub_zero]
      exact (R.ok h (List.mem_of_getElem? e)).mod k
    rw [this]
  rw [this]
  have hm := mix_at (p := p) (s := s) (g := g) e
  obtain ⟨hi, q⟩ := List.getElem?_eq_some_iff.mp hm
  rw [← q]
  exact List.set_getElem_self hi
def spHeadsOf (K : PySem.W.Frag) : Sp := fun vs H Q _ => ∃ (p : Int) (a : Addr) (n : Nat) (ds : List Addr) (fs : List (Nat → Int)), vs = [.int p, .ref a] ∧ SqL K H a (ds.map V.ref) ∧ Paired (fun d f => SpR H d f) ds fs ∧ p ∈ fieldsL ∧ n ≤ 1000 ∧ (∀ f ∈ fs, RowOk p n f ∧ Two f) ∧
  ∀ H' D L, Same H H' → H D = none → HdR H' D L → Red p n L → (∀ h ∈ L, Two h.2) → (∀ u, Ann p n L u ↔ ∀ f ∈ fs, Van p n u f) → Q (.ref D) H'
section
variable {P : Program} {w : World} {K : PySem.W.Frag} {mg : Str → Option Value} {base : Heap}
abbrev N_heads_of : List Str := ["prime", "rows", "heads", "row", "fresh", "spot", "back", "other", "k"]
theorem sc_heads_of : FnScope N_heads_of ["prime", "rows"] (defScope sd_heads_of) := ⟨rfl, rfl, rfl, by decide +kernel, rfl, by decide +kernel, by decide +kernel⟩
theorem f_heads_of (D : DefAt K mg "heads_of" sd_heads_of) (T : Txt K mg) (f_undone : FnS P w K mg base CX0 1 "undone" ["prime", "number"] spUndone) (f_lessened : FnS P w K mg base CX0 1 "lessened" ["prime", "row", "other", "many"] spLessened) (f_cleared : FnS P w K mg base CX0 2 "cleared" ["prime", "row", "heads"] spCleared) :
    FnS P w K mg base CX0 3 "heads_of" ["prime", "rows"] (spHeadsOf K) :=
  mkFn D sc_heads_of (fun _ _ _ _ _ _ us hl => match us, hl with | [_, _], _ => rfl) (fun vs H Q E ⟨_, _, _, _, _, e, _⟩ => by rw [e]; rfl) fun cdv A outer s H vs Q E hr ⟨p, a, n, ds, fs, e, hds, hfs, hp, hn, hf, q⟩ => by
  subst e
  have hp2 := (fields_pos hp).1
  have hp97 := (fields_pos hp).2
  refine ⟨_, (pss_cons (ps_set (i := 2) sc_heads_of.nd rfl (.inl rfl) pe_dnewK)
      (pss_cons (ps_for (passes_of rfl) rfl (pi_list (pv 1)) (pg_name (i := 3) sc_heads_of.nd rfl (.inl rfl)) (pss_cons (ps_set (i := 4) sc_heads_of.nd rfl (.inr rfl) (pe_call f_cleared.ok (hr.mono (by decide)) rfl f_cleared.g f_cleared.kp f_cleared.b .nil pass0 (pa_cons (pv 0) (pa_cons (pv 3) (pa_cons (pv 2) pa_nil)))))
      (pss_one (ps_if (pt_cmpR (op_neE (hu_lt hr)) (pv 4) pe_dnewK (nomark _)) (pss_cons (ps_set (i := 5) sc_heads_of.nd rfl (.inl rfl) (pe_callB (cr_minK rfl) (by rfl) T.min_ bo_min (pa_cons (pv 4) pa_nil)))
      (pss_cons (ps_set (i := 6) sc_heads_of.nd rfl (.inr rfl) (pe_call f_undone.ok (hr.mono (by decide)) rfl f_undone.g f_undone.kp f_undone.b .nil pass0 (pa_cons (pv 0) (pa_cons (pe_dget (hu_of hr) (pv 4) (pv 5) (fun _ _ => rfl)) pa_nil))))
      (pss_cons (ps_set (i := 4) sc_heads_of.nd rfl (.inr rfl) (pe_callTy (call_dictP rfl) (by rfl) T.dict_ bo_dict (pa_cons (pe_lock (pe_lc (own := [("k", 8)]) (g := (gName 8)) rfl sc_heads_of.nd (pi_keys (pv 4)) (blkOk_by (N := N_heads_of) (sc := defScope sd_heads_of) (by decide +kernel)) (fun _ _ _ _ _ => (pg_name (i := 8) sc_heads_of.nd rfl (.inl rfl))) (fun _ _ _ _ _ => pts_nil) (fun _ _ _ _ _ => (pe_tup (pa_cons (pv 8) (pa_cons (pe_op op_mod (pe_op op_mul (pe_dget (hu_of hr) (pv 4) (pv 8) (fun _ _ => rfl)) (pv 6)) (pv 0)) pa_nil)))))) pa_nil)))
      (pss_cons (ps_for (passes_of rfl) rfl (pi_list (pe_callTy (call_listD rfl) (by rfl) T.list_ bo_list (pa_cons (pv 2) pa_nil))) (pg_name (i := 7) sc_heads_of.nd rfl (.inl rfl)) (pss_one (ps_if (pt_cmp (pc_din (hu_of hr) (pv 5) (pe_dget (hu_of hr) (pv 2) (pv 7) (fun _ _ => rfl))) rfl) (pss_one (ps_dput (hu_of hr) (pv 2) (pv 7) (pe_call f_lessened.ok (hr.mono (by decide)) rfl f_lessened.g f_lessened.kp f_lessened.b .nil pass0 (pa_cons (pv 0) (pa_cons (pe_dget (hu_of hr) (pv 2) (pv 7) (fun _ _ => rfl)) (pa_cons (pv 4) (pa_cons (pe_dget (hu_of hr) (pe_dget (hu_of hr) (pv 2) (pv 7) (fun _ _ => rfl)) (pv 5) (fun _ _ => rfl)) pa_nil))))) rfl)) pss_nil)))
      (pss_one (ps_dput (hu_of hr) (pv 2) (pv 5) (pv 4) rfl)))))) pss_nil))))
      (pss_one (ps_ret (pv 2))))), ?_⟩
  refine fun D hD => ?_
  have s0 : Same H (upd H D (.dK [])) := Same.new hD
  refine ⟨_, rfl, a, rfl, ⟨_, s0.seq hds⟩, for_walk wk_list (fun i σ H' => ∃ (L : List Head) (x3 x4 x5 x6 x7 x8 : Option V), σ = [some (.int p), some (.ref a), some (.ref D), x3, x4, x5, x6, x7, x8] ∧ (∀ b o, b ≠ D → H b = some o → H' b = some o) ∧ HdR H' D L ∧ Red p n L ∧ (∀ h ∈ L, Two h.2) ∧ ∀ u, Ann p n L u ↔ ∀ f ∈ fs.take i, Van p n u f)
    ⟨[], _, _, _, _, _, _, rfl, fun b o nb e => s0 _ _ e, ⟨[], upd_same, .nil⟩, red_nil p n, (fun h hh => absurd hh List.not_mem_nil), fun u => ⟨fun _ f hf => absurd hf (by simp), fun _ h hh => absurd hh List.not_mem_nil⟩⟩
    (fun i σ H' hi ⟨L, _, _, _, _, _, _, _, fr, _⟩ => Same.seq (H := H) (fun b o e => fr b o (ne_of_none e hD) e) hds) (fun i x σ H1 H2 hi ⟨L, x3, x4, x5, x6, x7, x8, eσ, fr, hd, R, tl, ann⟩ s2 it => ?_) fun σ H1 ⟨L, x3, x4, x5, x6, x7, x8, eσ, fr, hd, R, tl, ann⟩ => ?_⟩
  · subst eσ
    obtain ⟨dr, hdr, ex⟩ : ∃ d, ds[i]? = some d ∧ x = .ref d := by
      have it : (ds.map V.ref)[i]? = some x := it
      rw [List.getElem?_map] at it
      cases e : ds[i]? with
      | none => rw [e] at it; cases it
      | some d => rw [e] at it; exact ⟨d, rfl, (Option.some.inj it).symm⟩
    subst ex
    obtain ⟨f, hfi, sf⟩ := paired_at2 hfs hdr
    obtain ⟨rf, tf⟩ := hf f (List.mem_of_getElem? hfi)
    have sH : Same H H2 := fun b o e => s2 _ _ (fr b o (ne_of_none e hD) e)
    have tk : fs.take (i + 1) = fs.take i ++ [f] := by rw [List.take_add_one, hfi]; rfl
    refine ⟨_, rfl, _, rfl, _, rfl, p, dr, D, f, L, n, rfl, sf.mono sH, hd.mono s2, hp2, hp97, hn, R, tl, rf, tf, fun H3 d f' s3 hd3 sf' clr off tf' => ?_⟩
    have s13 := s2.trans s3
    obtain ⟨kd, hkd, sp⟩ := id sf'
    have hD3 := hd.mono s13
    refine ⟨_, rfl, fun o ho => ⟨d, o, kd, rfl, rfl, Same.new ho _ _ hkd, upd_same, _, rfl, ite2 (fun e => ?_) fun e => ?_⟩⟩
    · -- fresh != {}
      have s4 : Same H3 (upd H3 o (.dK [])) := Same.new ho
      have hne : keysTo kd kd.length ≠ [] := fun z => by
        have : kd = [] := by
          have l := keysI_len sp
          rw [z] at l
          exact List.eq_nil_of_length_eq_zero l.symm
        rw [this] at e
        exact Bool.noConfusion e
      refine ⟨_, rfl, d, kd, keysTo kd kd.length, rfl, s4 _ _ hkd, keysI sp, hne, fun m hm hmin => ?_⟩
      obtain ⟨j0, v0, _, ej0⟩ := keysTo_mem hm
      obtain ⟨s, es, fs0⟩ := sp.key _ (List.mem_of_getElem? ej0)
      have ems : m = (s : Int) := Sum.inl.inj (congrArg Prod.fst es)
      subst ems
      have smin : ∀ k, k < s → f' k = 0 := fun k hk => Decidable.byContradiction fun z => by
        have := hmin _ ((keysTo_all sp k).mpr z)
        omega
      have flo := clr.ok.lo s
      have fhi := clr.ok.hi s
      have inv := undone_is hp (n := f' s) (by omega) fhi
      refine ⟨_, rfl, _, rfl, _, rfl, d, _, rfl, .inl ⟨kd, kN s, .inl (s4 _ _ hkd), rfl, (sp.val_is fs0).symm⟩, p, f' s, rfl, hp, fun H5 s5 => ?_⟩
      have F : Fresh p n L f' s (undoneV p (f' s)) := ⟨clr.ok, off, fs0, smin, inv.2.2⟩
      have hkd5 : H5 d = some (.dK kd) := s5 _ _ (s4 _ _ hkd)
      have s35 : Same H3 H5 := s4.trans s5
      -- fresh = dict([(k, fresh[k] * back % prime) for k in fresh])
      refine ⟨d, .dK kd, hkd5, True.intro, fun od => ⟨_, rfl, d, od, rfl, .inl ⟨kd, upd_same, ?_⟩⟩⟩
      refine lc_walk wk_keys (fun _ => true) (fun D i y H => ∃ T k, kd[i]? = some (kN k, V.int (f' k)) ∧ y = V.ref T ∧ T ≠ D ∧ T ≠ d ∧ H T = some (.tup [.int (k : Nat), .int (scaled p f' (undoneV p (f' s)) k)])) (fun D i y H1 H2 b ⟨T, k, e0, e, n, nd, h⟩ => ⟨T, k, e0, e, n, nd, b _ _ n h⟩) ?_ upd_same
        (fun DD i x H' C N hi it s6 hDD ac kC kN' => ?_) fun DD H' ys s6 hDD e6 r6 => ?_
      · obtain ⟨a2, b2, tab⟩ := tf'
        exact Nat.lt_of_le_of_lt (sp.len (l := [a2, b2]) fun k hk => by rcases tab k hk with e | e <;> simp [e]) (by show 2 < sizeLine; decide)
      · obtain ⟨key, v, hkv, rfl⟩ := it
        obtain ⟨k, ekv, nz⟩ := sp.key _ (List.mem_of_getElem? hkv)
        obtain ⟨rfl, rfl⟩ := Prod.mk.inj ekv
        have hd6 : H' d = some (.frz od (.dK kd)) := s6 _ _ upd_same
        have klo := clr.ok.lo k
        have khi := clr.ok.hi k
        refine ⟨rfl, _, rfl, _, rfl, _, rfl, d, _, rfl, .inl ⟨kd, kN k, .inr ⟨od, hd6⟩, rfl, (sp.val_is nz).symm⟩, _, rfl, _, _, rfl, rfl, .inl ⟨by omega, by omega⟩, _, rfl, _, _, rfl, rfl, (by omega), (by show 2 ≤ sizeLine; decide), fun t ht => ?_⟩
        obtain ⟨acc, hacc⟩ := ac
        exact kC _ _ rfl (Same.new ht) ⟨t, k, hkv, rfl, ne_of_none' hacc ht, ne_of_none' hd6 ht, upd_same⟩
      · have hd6 : H' d = some (.frz od (.dK kd)) := s6 _ _ upd_same
        refine ⟨hd6, ?_⟩
        have s7 : Same H5 (upd H' d (.dK kd)) := fun b o hb => by
          by_cases e : b = d
          · rw [e, upd_same]
            rw [e, hkd5] at hb
            exact hb
          · rw [upd_ne e]
            exact s6 _ _ (by rw [upd_ne e]; exact hb)
        have dDD : d ≠ DD := ne_of_none upd_same hDD
        -- the pairs
        rw [List.filter_eq_self.mpr fun _ _ => rfl] at r6
        have lks : ((keysTo kd kd.length).map Int.toNat).length = ys.length := by
          rw [List.length_map, keysI_len sp, ← paired_len r6, List.length_range]
        have kat : ∀ {i k : Nat}, kd[i]? = some (kN k, V.int (f' k)) → ((keysTo kd kd.length).map Int.toNat)[i]? = some k := fun {i k} h => by
          have e1 : (kd.map (·.1))[i]? = some (kN k) := by rw [List.getElem?_map, h]; rfl
          rw [keysI sp, List.getElem?_map] at e1
          rw [List.getElem?_map]
          cases e2 : (keysTo kd kd.length)[i]? with
          | none => rw [e2] at e1; cases e1
          | some z =>
            rw [e2] at e1
            have : z = (k : Int) := Sum.inl.inj (Option.some.inj e1)
            rw [this]
            rfl
        have pr : Paired (fun k y => ∃ T, y = V.ref T ∧ T ≠ DD ∧ (upd H' d (.dK kd)) T = some (.tup [.int (k : Nat), .int (scaled p f' (undoneV p (f' s)) k)])) ((keysTo kd kd.length).map Int.toNat) ys :=
          paired_mk lks fun i k y h1 h2 => by
            have hi : i < kd.length := by
              have := (List.getElem?_eq_some_iff.mp h1).1
              rw [List.length_map, keysI_len sp] at this
              exact this
            obtain ⟨T, k2, e0, e1, n1, n2, e3⟩ := paired_idx r6 (a := i) (by rw [List.getElem?_range hi]) h2
            have : k = k2 := Option.some.inj (h1.symm.trans (kat e0))
            rw [this]
            exact ⟨T, e1, n1, by rw [upd_ne n2]; exact e3⟩
        have mks : ∀ {k : Nat}, k ∈ (keysTo kd kd.length).map Int.toNat ↔ f' k ≠ 0 := fun {k} => by
          constructor
          · intro h
            obtain ⟨z, hz, e⟩ := List.mem_map.mp h
            obtain ⟨j, v, _, ej⟩ := keysTo_mem hz
            obtain ⟨k2, e2, nz⟩ := sp.key _ (List.mem_of_getElem? ej)
            have : z = (k2 : Int) := Sum.inl.inj (congrArg Prod.fst e2)
            have : k2 = k := by omega
            rw [← this]
            exact nz
          · intro h
            exact List.mem_map.mpr ⟨k, (keysTo_all sp k).mpr h, by omega⟩
        have ndk : ((keysTo kd kd.length).map Int.toNat).Nodup := by
          have h1 : ((keysTo kd kd.length).map Sum.inl : List Key).Nodup := by
            rw [← keysI sp]
            exact sp.nd
          have h2 : (keysTo kd kd.length).Nodup := List.Pairwise.of_map Sum.inl (fun a b h q => h (congrArg Sum.inl q)) h1
          refine List.pairwise_map.mpr (List.Pairwise.imp_of_mem (fun {a b} ha hb h q => ?_) h2)
          obtain ⟨j, v, _, ej⟩ := keysTo_mem ha
          obtain ⟨ka, ea, _⟩ := sp.key _ (List.mem_of_getElem? ej)
          obtain ⟨j2, v2, _, ej2⟩ := keysTo_mem hb
          obtain ⟨kb, eb, _⟩ := sp.key _ (List.mem_of_getElem? ej2)
          have h1 : a = (ka : Int) := Sum.inl.inj (congrArg Prod.fst ea)
          have h2 : b = (kb : Int) := Sum.inl.inj (congrArg Prod.fst eb)
          omega
        have gnz : ∀ k ∈ (keysTo kd kd.length).map Int.toNat, scaled p f' (undoneV p (f' s)) k ≠ 0 := fun k hk => scaled_nz F (mks.mp hk)
        have gall : ∀ k, scaled p f' (undoneV p (f' s)) k ≠ 0 → k ∈ (keysTo kd kd.length).map Int.toNat := fun k hk => mks.mpr fun z => hk (F.zero z)
        obtain ⟨ps, rfl, r2⟩ := pairs_dict (K := K) ndk gnz pr
        refine ⟨DD, ps, _, rfl, SqL.of (by rw [upd_ne dDD.symm]; exact e6), r2, fun d2 hd2 => ?_⟩
        have spg : SpK (mergeK [] (((keysTo kd kd.length).map Int.toNat).map fun k => (kN k, V.int (scaled p f' (undoneV p (f' s)) k)))) (scaled p f' (undoneV p (f' s))) := pairs_spk ndk gnz gall
        generalize hkg : mergeK [] (((keysTo kd kd.length).map Int.toNat).map fun k => (kN k, V.int (scaled p f' (undoneV p (f' s)) k))) = kg at spg
        have s8 : Same (upd H' d (.dK kd)) (upd (upd H' d (.dK kd)) d2 (.dK kg)) := Same.new hd2
        have s38 := (s35.trans s7).trans s8
        have sgr : SpR (upd (upd H' d (.dK kd)) d2 (.dK kg)) d2 (scaled p f' (undoneV p (f' s))) := ⟨kg, upd_same, spg⟩
        generalize hg : scaled p f' (undoneV p (f' s)) = g at *
        generalize hH8 : upd (upd H' d (.dK kd)) d2 (.dK kg) = H8 at s8 s38 sgr
        obtain ⟨kh, hkh, hk⟩ := hD3.mono s38
        have nDd : d2 ≠ D := by
          obtain ⟨kh3, hkh3, _⟩ := hD3
          exact (ne_of_none ((s35.trans s7) _ _ hkh3) hd2).symm
        -- for other in list(heads)
        refine ⟨_, rfl, D, kh, rfl, .inl hkh, fun lq hlq => ?_⟩
        have s9 : Same H8 (upd H8 lq (.lst (kh.map fun kv => kV kv.1))) := Same.new hlq
        have elq : (kh.map fun kv => kV kv.1) = L.map fun h => V.int (h.1 : Nat) := by
          have : (kh.map fun kv => kV kv.1) = (kh.map (·.1)).map kV := by rw [List.map_map]; rfl
          rw [this, hk.keys, List.map_map]
          rfl
        have gs : g s = 1 := by rw [← hg]; exact F.inv
        have gtwo : Two g := by rw [← hg]; exact two_mul tf'
        have nDq : lq ≠ D := (ne_of_none hkh hlq).symm
        have grow : RowOk p n g := by rw [← hg]; exact F.row hp2
        have fin : ∀ H9, (∀ b o, b ≠ D → H8 b = some o → H9 b = some o) → HdR H9 D (Mix p L s g L.length) → ∀ x7 x8, sDPut (tVar 2) (tVar 5) (tVar 4) { nx := fun σ H' => ∃ (L : List Head) (x3 x4 x5 x6 x7 x8 : Option V), σ = [some (.int p), some (.ref a), some (.ref D), x3, x4, x5, x6, x7, x8] ∧ (∀ b o, b ≠ D → H b = some o → H' b = some o) ∧ HdR H' D L ∧ Red p n L ∧ (∀ h ∈ L, Two h.2) ∧ ∀ u, Ann p n L u ↔ ∀ f ∈ fs.take (i + 1), Van p n u f, rt := Q }
            [some (.int p), some (.ref a), some (.ref D), some (.ref dr), some (.ref d2), some (.int s), some (.int (undoneV p (f' s))), x7, x8] H9 := fun H9 fr9 hd9 x7 x8 => by
          obtain ⟨k9, hk9, hh9⟩ := hd9
          have l9 : k9.length = L.length := hh9.len.trans (mix_len (Nat.le_refl _))
          have Lle : L.length ≤ 1000 := by
            have := nodup_len (ys := List.range n) R.nd fun x hx => by
              obtain ⟨h, mh, e⟩ := List.mem_map.mp hx
              rw [← e]
              exact List.mem_range.mpr (R.lt h mh)
            rw [List.length_map, List.length_range] at this
            omega
          have big : 1000 < sizeLine := by decide
          refine ⟨_, rfl, _, rfl, _, rfl, D, _, rfl, DPut.k (k := kN s) hk9 (by omega), ?_⟩
          have nos : s ∉ (Mix p L s g L.length).map (·.1) := by
            rw [mix_keys]
            intro m
            obtain ⟨h, mh, e⟩ := List.mem_map.mp m
            exact F.new h mh e
          have frD : ∀ b o, b ≠ D → H9 b = some o → (upd H9 D (.dK (putK k9 (kN s) (.ref d2)))) b = some o := fun b o nb e => by
            rw [upd_ne nb]
            exact e
          have sg9 : SpR (upd H9 D (.dK (putK k9 (kN s) (.ref d2)))) d2 g := by
            obtain ⟨kk, e1, e2⟩ := sgr
            exact ⟨kk, frD _ _ nDd (fr9 _ _ nDd e1), e2⟩
          have hd10 := hh9.snoc nos frD nDd sg9
          rw [mix_all] at hd10
          refine ⟨grown p L s g, _, _, _, _, _, _, rfl, fun b o nb e => ?_, ⟨_, upd_same, hd10⟩, ?_, ?_, fun u => ?_⟩
          · exact frD _ _ nb (fr9 _ _ nb (s38 _ _ (s13 _ _ (fr _ _ nb e))))
          · rw [← hg]
            exact red_grown hp2 R F
          · rw [← hg]
            exact two_grown hp2 R F tf' tl
          · rw [← hg, ann_grown F, tk]
            constructor
            · rintro ⟨h1, h2⟩ y hy
              rcases List.mem_append.mp hy with m | m
              · exact (ann u).mp h1 y m
              · have : y = f := by simpa using m
                rw [this]
                exact (clr.same u h1).mp h2
            · intro h
              have h1 : Ann p n L u := (ann u).mpr fun y hy => h y (List.mem_append_left _ hy)
              exact ⟨h1, (clr.same u h1).mpr (h f (List.mem_append_right _ (by simp)))⟩
        refine ⟨lq, rfl, ⟨_, SqL.of upd_same⟩, for_walk wk_list (fun j σ H' => ∃ x7 x8, σ = [some (.int p), some (.ref a), some (.ref D), some (.ref dr), some (.ref d2), some (.int s), some (.int (undoneV p (f' s))), x7, x8] ∧ (∀ b o, b ≠ D → (upd H8 lq (.lst (kh.map fun kv => kV kv.1))) b = some o → H' b = some o) ∧ HdR H' D (Mix p L s g j))
          ⟨_, _, rfl, fun _ _ _ e => e, by rw [mix_zero]; exact HdR.mono s9 ⟨kh, hkh, hk⟩⟩ (fun j σ H' hj ⟨_, _, _, fr9, _⟩ => SqL.of (fr9 _ _ nDq upd_same)) (fun j x σ H10 H11 hj ⟨x7, x8, eσ, fr10, hd10⟩ s11 it => ?_) fun σ H10 ⟨x7, x8, eσ, fr10, hd10⟩ => ?_⟩
        · subst eσ
          have lkh : (kh.map fun kv => kV kv.1).length = L.length := by rw [List.length_map]; exact hk.len
          obtain ⟨h, hLj, ex⟩ : ∃ h, L[j]? = some h ∧ x = .int (h.1 : Nat) := by
            have it : (kh.map fun kv => kV kv.1)[j]? = some x := it
            rw [elq, List.getElem?_map] at it
            cases e : L[j]? with
            | none => rw [e] at it; cases it
            | some h => rw [e] at it; exact ⟨h, rfl, (Option.some.inj it).symm⟩
          subst ex
          have mh := List.mem_of_getElem? hLj
          obtain ⟨k11, hk11, hh11⟩ := hd10.mono s11
          have ndm : ((Mix p L s g j).map (·.1)).Nodup := by rw [mix_keys]; exact R.nd
          have mm : h ∈ Mix p L s g j := List.mem_of_getElem? (mix_at hLj)
          obtain ⟨ah, eah, nah, kk, ekk, spk⟩ := hh11.val_is ndm mm
          have frz : ∀ b o, b ≠ D → (upd H8 lq (.lst (kh.map fun kv => kV kv.1))) b = some o → H11 b = some o := fun b o nb e => s11 _ _ (fr10 _ _ nb e)
          refine ⟨_, rfl, _, rfl, _, rfl, D, _, rfl, .inl ⟨k11, kN h.1, .inl hk11, rfl, eah.symm⟩, ah, _, rfl, .inl ⟨kk, kN s, .inl ekk, rfl, rfl⟩, _, rfl, ite2 (fun e => ?_) fun e => ?_⟩
          · have nz : h.2 s ≠ 0 := fun z => by
              rw [spk.val_no z] at e
              cases e
            have sg11 : SpR H11 d2 g := by
              obtain ⟨k0, e1, e2⟩ := sgr
              exact ⟨k0, frz _ _ nDd (s9 _ _ e1), e2⟩
            have hlo := (R.ok h mh).lo s
            have hhi := (R.ok h mh).hi s
            obtain ⟨a2, b2, tab2⟩ := tl h mh
            obtain ⟨a3, b3, tab3⟩ := gtwo
            refine ⟨_, rfl, _, rfl, _, rfl, D, _, rfl, .inl ⟨k11, kN h.1, .inl hk11, rfl, eah.symm⟩, _, rfl, _, rfl, _, rfl, D, _, rfl, .inl ⟨k11, kN h.1, .inl hk11, rfl, eah.symm⟩, _, rfl, ah, _, rfl, .inl ⟨kk, kN s, .inl ekk, rfl, (spk.val_is nz).symm⟩, ?_⟩
            refine ⟨p, ah, d2, h.2, g, h.2 s, [a2, b2, a3, b3], rfl, ⟨kk, ekk, spk⟩, sg11, by omega, fun k => (R.ok h mh).mod k, ⟨by omega, by omega⟩, fun k hk => ?_, by show 4 < 10000; decide, fun H12 d3 s12 hd3 sp3 => ?_⟩
            · rcases hk with hk | hk
              · rcases tab2 k hk with e | e <;> simp [e]
              · rcases tab3 k hk with e | e <;> simp [e]
            · have hk12 := s12 _ _ hk11
              have nD3 : d3 ≠ D := (ne_of_none hk11 hd3).symm
              have l11 : k11.length = L.length := hh11.len.trans (mix_len (by omega))
              have Lle : L.length ≤ 1000 := by
                have := nodup_len (ys := List.range n) R.nd fun x hx => by
                  obtain ⟨h, mh, e⟩ := List.mem_map.mp hx
                  rw [← e]
                  exact List.mem_range.mpr (R.lt h mh)
                rw [List.length_map, List.length_range] at this
                omega
              have big : 1000 < sizeLine := by decide
              refine ⟨_, rfl, _, rfl, D, _, rfl, DPut.k (k := kN h.1) hk12 (by omega), ?_⟩
              have frD : ∀ b o, b ≠ D → H11 b = some o → (upd H12 D (.dK (putK k11 (kN h.1) (.ref d3)))) b = some o := fun b o nb e => by
                rw [upd_ne nb]
                exact s12 _ _ e
              refine ⟨_, _, rfl, fun b o nb e => frD _ _ nb (frz _ _ nb e), ⟨_, upd_same, ?_⟩⟩
              rw [mix_next hLj]
              exact hh11.put ndm (mix_at hLj) frD nD3 (sp3.upd nD3)
          · have z : h.2 s = 0 := Decidable.byContradiction fun q => by
              rw [spk.val_is q] at e
              exact e rfl
            refine ⟨_, _, rfl, frz, ?_⟩
            rw [mix_stay R hLj z]
            exact ⟨k11, hk11, hh11⟩
        · subst eσ
          have : (kh.map fun kv => kV kv.1).length = L.length := by rw [List.length_map]; exact hk.len
          rw [this] at hd10
          exact fin H10 (fun b o nb e => fr10 _ _ nb (s9 _ _ e)) hd10 x7 x8
    · -- nothing is left of the row
      have e1 : kd = [] := by
        cases kd with
        | nil => rfl
        | cons x r => exact absurd rfl e
      subst e1
      have z : ∀ k, f' k = 0 := fun k => Decidable.byContradiction fun q => absurd (sp.all k q) (by simp)
      refine ⟨L, _, _, _, _, _, _, rfl, fun b o nb e => ?_, hD3.mono (Same.new ho), R, tl, fun u => ?_⟩
      · exact Same.new ho _ _ (s13 _ _ (fr b o nb e))
      · rw [tk]
        constructor
        · intro hu g hg
          rcases List.mem_append.mp hg with m | m
          · exact (ann u).mp hu g m
          · have : g = f := by simpa using m
            rw [this]
            refine (clr.same u hu).mp ?_
            have : dot n u f' = 0 := by
              unfold dot
              exact sumN_zero fun k _ => by rw [z, Int.mul_zero]
            unfold Van
            rw [this]
            exact ⟨0, by simp⟩
        · exact fun h => (ann u).mpr fun g hg => h g (List.mem_append_left _ hg)
  · subst eσ
    refine ⟨_, rfl, q H1 D L (fun b o e => fr b o (ne_of_none e hD) e) hD hd R tl fun u => ?_⟩
    rw [ann u]
    have len : (ds.map V.ref).length = fs.length := by rw [List.length_map]; exact paired_len hfs
    rw [len, List.take_length]
end
end Kz
end
section
set_option Elab.async false
set_option linter.all false
set_option maxRecDepth 100000
set_option maxHeartbeats 4000000
/-! the solving, 5: tidy rows -/
namespace Kz
open PySem PySem.Spec PyProof.Rows L2 KzM
/-- a row of n numbers as a tuple -/
def RowT (K : PySem.W.Frag) (H : Hp) (n : Nat) (t : Addr) (f : Nat → Int) : Prop := SqT K H t ((List.range n).map fun k => V.int (f k))
theorem RowT.mono {K : PySem.W.Frag} {H H' : Hp} {n : Nat} {t : Addr} {f : Nat → Int} (s : Same H H') (h : RowT K H n t f) : RowT K H' n t f := s.seqT h
theorem SqT.but {K : PySem.W.Frag} {H H' : Hp} {D t : Addr} {xs : List V} (b : But D H H') (n : t ≠ D) (h : SqT K H t xs) : SqT K H' t xs := by
  rcases h with (h | ⟨o, h⟩) | h
  · exact .inl (.inl (b _ _ n h))
  · exact .inl (.inr ⟨o, b _ _ n h⟩)
  · exact .inr h
def spTidy (K : PySem.W.Frag) : Sp := fun vs H Q _ => ∃ (p : Int) (n : Nat) (a : Addr) (rs : List Addr) (xss : List (List Int)), vs = [.int p, .int n, .ref a] ∧ SqL K H a (rs.map V.ref) ∧ Paired (fun r xs => SqX K H r (xs.map V.int)) rs xss ∧ p ∈ fieldsL ∧ n < 64 ∧ rs.length < sizeLine ∧
  (∀ xs ∈ xss, xs.length ≤ n ∧ Two (fun k => xs.getD k 0 % p)) ∧
  ∀ H' d ts fs, Same H H' → H d = none → H' d = some (.lst (ts.map V.ref)) → Paired (fun t f => RowT K H' n t f ∧ t ≠ d) ts fs → fs.length ≤ n → (∀ f ∈ fs, RowOk p n f ∧ Two f) → (∀ u, (∀ f ∈ fs, Van p n u f) ↔ ∀ xs ∈ xss, Van p n u (fun k => xs.getD k 0)) → Q (.ref d) H'
theorem few_ok {p : Int} {n : Nat} {xs : List Int} (hp : 0 < p) (h : xs.length ≤ n) : RowOk p n (fun k => xs.getD k 0 % p) where
  lo := fun k => Int.emod_nonneg _ (by omega)
  hi := fun k => Int.emod_lt_of_pos _ hp
  out := fun k hk => by
    show xs.getD k 0 % p = 0
    rw [List.getD_eq_getElem?_getD, List.getElem?_eq_none (by omega)]
    exact Int.zero_emod p
theorem red_len {p : Int} {n : Nat} {L : List Head} (R : Red p n L) : L.length ≤ n := by
  have := nodup_len (ys := List.range n) R.nd fun x hx => by
    obtain ⟨h, mh, e⟩ := List.mem_map.mp hx
    rw [← e]
    exact List.mem_range.mpr (R.lt h mh)
  rw [List.length_map, List.length_range] at this
  exact this
theorem red_lenI (hs : List Head) : (hs.map fun h => (h.1 : Int)).length = hs.length := List.length_map ..
theorem paired_map_r {α β γ : Type} {R : α → γ → Prop} {g : β → γ} : ∀ {l : List α} {m : List β}, Paired (fun a b => R a (g b)) l m → Paired R l (m.map g)
  | _, _, .nil => .nil
  | _, _, .cons r t => .cons r (paired_map_r t)
theorem paired_get {α β : Type} {F : α → β → Prop} {l : List α} {m : List β} (h : Paired F l m) {b : β} (hb : b ∈ m) : ∃ a ∈ l, F a b := by
  obtain ⟨i, hi, e⟩ := List.getElem_of_mem hb
  obtain ⟨a, h1, h2⟩ := paired_at h (List.getElem?_eq_getElem hi)
  rw [e] at h2
  exact ⟨a, List.mem_of_getElem? h1, h2⟩
theorem paired_get2 {α β : Type} {F : α → β → Prop} {l : List α} {m : List β} (h : Paired F l m) {a : α} (ha : a ∈ l) : ∃ b ∈ m, F a b := by
  obtain ⟨i, hi, e⟩ := List.getElem_of_mem ha
  obtain ⟨b, h1, h2⟩ := paired_at2 h (List.getElem?_eq_getElem hi)
  rw [e] at h2
  exact ⟨b, List.mem_of_getElem? h1, h2⟩
/-- values that are references -/
theorem refs_of {α : Type} {R : α → V → Prop} {S : α → Addr → Prop} (h : ∀ a y, R a y → ∃ t, y = V.ref t ∧ S a t) : ∀ {l : List α} {ys : List V}, Paired R l ys → ∃ ts : List Addr, ys = ts.map V.ref ∧ Paired S l ts
  | _, _, .nil => ⟨[], rfl, .nil⟩
  | _, _, .cons r t => by
    obtain ⟨x, e, q⟩ := h _ _ r
    obtain ⟨ts, e2, r2⟩ := refs_of h t
    exact ⟨x :: ts, by rw [e, e2]; rfl, .cons q r2⟩
section
variable {P : Program} {w : World} {K : PySem.W.Frag} {mg : Str → Option Value} {base : Heap}
abbrev N_tidy_rows : List Str := ["prime", "size", "rows", "heads", "row", "spot"]
theorem sc_tidy_rows : FnScope N_tidy_rows ["prime", "size", "rows"] (defScope sd_tidy_rows) := ⟨rfl, rfl, rfl, by decide +kernel, rfl, by decide +kernel, by decide +kernel⟩
theorem f_tidy_rows (D : DefAt K mg "tidy_rows" sd_tidy_rows) (T : Txt K mg) (f_few : FnS P w K mg base CX0 1 "few" ["prime", "row"] (spFew K)) (f_whole_row : FnS P w K mg base CX0 1 "whole_row" ["size", "sparse"] (spWholeRow K)) (f_heads_of : FnS P w K mg base CX0 3 "heads_of" ["prime", "rows"] (spHeadsOf K)) :
    FnS P w K mg base CX0 4 "tidy_rows" ["prime", "size", "rows"] (spTidy K) :=
  mkFn D sc_tidy_rows (fun _ _ _ _ _ _ us hl => match us, hl with | [_, _, _], _ => rfl) (fun vs H Q E ⟨_, _, _, _, _, e, _⟩ => by rw [e]; rfl) fun cdv A outer s H vs Q E hr ⟨p, n, a, rs, xss, e, hrs, hxs, hp, hn, hz, hok, q⟩ => by
  subst e
  have hp2 := (fields_pos hp).1
  have hp97 := (fields_pos hp).2
  have big : 10000 < sizeLine := by decide
  refine ⟨_, (pss_cons (ps_set (i := 3) sc_tidy_rows.nd rfl (.inr rfl) (pe_call f_heads_of.ok (hr.mono (by decide)) rfl f_heads_of.g f_heads_of.kp f_heads_of.b .nil pass0 (pa_cons (pv 0) (pa_cons (pe_lc (own := [("row", 4)]) (g := (gName 4)) rfl sc_tidy_rows.nd (pi_list (pv 2)) (blkOk_by (N := N_tidy_rows) (sc := defScope sd_tidy_rows) (by decide +kernel)) (fun _ _ _ _ _ => (pg_name (i := 4) sc_tidy_rows.nd rfl (.inl rfl))) (fun _ _ _ _ _ => pts_nil) (fun _ _ _ _ _ => (pe_call f_few.ok (hr.mono (by decide)) rfl f_few.g f_few.kp f_few.b .nil pass0 (pa_cons (pv 0) (pa_cons (pv 4) pa_nil))))) pa_nil))))
      (pss_one (ps_ret (pe_lc (own := [("spot", 5)]) (g := (gName 5)) rfl sc_tidy_rows.nd (pi_list (pe_callB (call_sortedDI rfl) (by rfl) T.sorted_ bo_sorted (pa_cons (pv 3) pa_nil))) (blkOk_by (N := N_tidy_rows) (sc := defScope sd_tidy_rows) (by decide +kernel)) (fun _ _ _ _ _ => (pg_name (i := 5) sc_tidy_rows.nd rfl (.inl rfl))) (fun _ _ _ _ _ => pts_nil) (fun _ _ _ _ _ => (pe_call f_whole_row.ok (hr.mono (by decide)) rfl f_whole_row.g f_whole_row.kp f_whole_row.b .nil pass0 (pa_cons (pv 1) (pa_cons (pe_dget (hu_of hr) (pv 3) (pv 5) (fun _ _ => rfl)) pa_nil)))))))), ?_⟩
  let F : List Int → Nat → Int := fun xs k => xs.getD k 0 % p
  refine ⟨_, rfl, _, rfl, a, rfl, ⟨_, hrs⟩, lc_walk wk_list (fun _ => true) (fun D i y H => ∃ d xs, xss[i]? = some xs ∧ y = V.ref d ∧ d ≠ D ∧ SpR H d (F xs)) (fun D i y H1 H2 b ⟨d, xs, e0, e, n, kk, e1, k⟩ => ⟨d, xs, e0, e, n, kk, b _ _ n e1, k⟩) (by rw [List.length_map]; exact hz) hrs
    (fun DD i x H' C N hi it s1 hDD ac kC kN' => ?_) fun DD H' ys s1 hDD e1 r1 => ?_⟩
  · obtain ⟨acc, hacc⟩ := ac
    obtain ⟨r, hr1, ex⟩ : ∃ r, rs[i]? = some r ∧ x = .ref r := by
      have it : (rs.map V.ref)[i]? = some x := it
      rw [List.getElem?_map] at it
      cases e : rs[i]? with
      | none => rw [e] at it; cases it
      | some d => rw [e] at it; exact ⟨d, rfl, (Option.some.inj it).symm⟩
    subst ex
    obtain ⟨xs, hxi, hx⟩ := paired_at2 hxs hr1
    exact ⟨rfl, _, rfl, _, rfl, p, r, xs, rfl, s1.seqX hx, by omega, by have := (hok xs (List.mem_of_getElem? hxi)).1; omega, fun H4 d s4 hd sp => kC _ _ rfl s4 ⟨d, xs, hxi, rfl, ne_of_none' hacc hd, sp⟩⟩
  · rw [List.filter_eq_self.mpr fun _ _ => rfl] at r1
    have lxs : rs.length = xss.length := paired_len hxs
    obtain ⟨ds, rfl, r2⟩ := refs_of (S := fun i d => ∃ xs, xss[i]? = some xs ∧ SpR H' d (F xs)) (fun i y ⟨d, xs, e0, e, _, k⟩ => ⟨d, e, xs, e0, k⟩) r1
    have pr : Paired (fun d f => SpR H' d f) ds (xss.map F) := paired_mk (by rw [List.length_map, ← paired_len r2, List.length_range, List.length_map, lxs]) fun i d f h1 h2 => by
      have hi : i < (rs.map V.ref).length := by
        have := (List.getElem?_eq_some_iff.mp h1).1
        rw [← paired_len r2, List.length_range] at this
        exact this
      obtain ⟨xs, e0, k⟩ := paired_idx r2 (a := i) (by rw [List.getElem?_range hi]) h1
      rw [List.getElem?_map, e0] at h2
      rw [← Option.some.inj h2]
      exact k
    refine ⟨p, DD, n, ds, xss.map F, rfl, SqL.of e1, pr, hp, by omega, fun f hf => ?_, fun H2 D2 L s2 hD2 hdr R tl ann => ?_⟩
    · obtain ⟨xs, m, rfl⟩ := List.mem_map.mp hf
      exact ⟨few_ok (by omega) (hok xs m).1, (hok xs m).2⟩
    · have s12 := s1.trans s2
      obtain ⟨kh, hkh, hk⟩ := id hdr
      have ek : kh.map (·.1) = (L.map fun h => (h.1 : Int)).map Sum.inl := by rw [hk.keys, List.map_map]; rfl
      refine ⟨_, rfl, D2, kh, _, rfl, .inl hkh, ek, by rw [List.length_map]; have := red_len R; omega, fun ys q2 hperm hs hq => ?_⟩
      have s3 : Same H2 (upd H2 q2 (.lst (ys.map V.int))) := Same.new hq
      have leny : ys.length = L.length := by rw [hperm.length_eq, List.length_map]
      have hat : ∀ {i : Nat} {x : V}, (ys.map V.int)[i]? = some x → ∃ h ∈ L, x = .int (h.1 : Nat) ∧ ys[i]? = some (h.1 : Int) := fun {i x} h => by
        rw [List.getElem?_map] at h
        cases e : ys[i]? with
        | none => rw [e] at h; cases h
        | some z =>
          rw [e] at h
          obtain ⟨hd, mh, ez⟩ := List.mem_map.mp (hperm.mem_iff.mp (List.mem_of_getElem? e))
          exact ⟨hd, mh, by rw [← Option.some.inj h, ← ez], by rw [ez]⟩
      refine ⟨q2, rfl, ⟨_, SqL.of upd_same⟩, lc_walk (wk_list (K := K) (a := q2) (xs := ys.map V.int)) (fun _ => true) (fun D i y H => ∃ t h, h ∈ L ∧ ys[i]? = some (h.1 : Int) ∧ y = V.ref t ∧ t ≠ D ∧ RowT K H n t h.2) (fun D i y H1 H2 b ⟨t, h, m, e0, e, nt, k⟩ => ⟨t, h, m, e0, e, nt, SqT.but b nt k⟩) (by rw [List.length_map, leny]; have := red_len R; omega) (SqL.of upd_same)
        (fun D3 i x H' C N hi it s4 hD3 ac kC kN' => ?_) fun D3 H4 ys4 s4 hD3 e4 r4 => ?_⟩
      · obtain ⟨acc, hacc⟩ := ac
        obtain ⟨h, mh, rfl, ey⟩ := hat it
        obtain ⟨kh4, hkh4, hk4⟩ := hdr.mono (s3.trans s4)
        obtain ⟨ah, eah, nah, sph⟩ := hk4.val_is R.nd mh
        exact ⟨rfl, _, rfl, _, rfl, _, rfl, D2, _, rfl, .inl ⟨kh4, kN h.1, .inl hkh4, rfl, eah.symm⟩, n, ah, h.2, rfl, sph, by omega, fun H5 t s5 ht ht2 => kC _ _ rfl s5 ⟨t, h, mh, ey, rfl, ne_of_none' hacc ht, ht2⟩⟩
      · rw [List.filter_eq_self.mpr fun _ _ => rfl] at r4
        obtain ⟨ts, rfl, r5⟩ := refs_of (S := fun i t => ∃ h, h ∈ L ∧ ys[i]? = some (h.1 : Int) ∧ t ≠ D3 ∧ RowT K H4 n t h.2) (fun i y ⟨t, h, m, e0, e, nt, k⟩ => ⟨t, e, h, m, e0, nt, k⟩) r4
        -- the rows behind the tuples
        have get : ∃ hs : List Head, Paired (fun t h => RowT K H4 n t h.2 ∧ t ≠ D3) ts hs ∧ (∀ h ∈ hs, h ∈ L) ∧ hs.map (fun h => (h.1 : Int)) = ys := by
          have lts : ts.length = ys.length := by rw [← paired_len r5, List.length_range, List.length_map]
          clear r4 e4 hperm hs hat leny s4 hq s3
          have gen : ∀ (ts : List Addr) (ys : List Int), ts.length = ys.length → (∀ (i : Nat) t y, ts[i]? = some t → ys[i]? = some y → ∃ h, h ∈ L ∧ y = (h.1 : Int) ∧ t ≠ D3 ∧ RowT K H4 n t h.2) → ∃ hs : List Head, Paired (fun t h => RowT K H4 n t h.2 ∧ t ≠ D3) ts hs ∧ (∀ h ∈ hs, h ∈ L) ∧ hs.map (fun h => (h.1 : Int)) = ys := fun ts => by
            induction ts with
            | nil =>
              intro ys l _
              cases ys with
              | nil => exact ⟨[], .nil, fun h hh => absurd hh List.not_mem_nil, rfl⟩
              | cons y r => simp at l
            | cons t ts ih =>
              intro ys l hh
              cases ys with
              | nil => simp at l
              | cons y r =>
                obtain ⟨h, m, e, nt, k⟩ := hh 0 t y (by simp) (by simp)
                obtain ⟨hs, p1, p2, p3⟩ := ih r (by simpa using l) fun i t y h1 h2 => hh (i + 1) t y (by simpa using h1) (by simpa using h2)
                refine ⟨h :: hs, .cons ⟨k, nt⟩ p1, fun x hx => ?_, by rw [List.map_cons, p3, e]⟩
                rcases List.mem_cons.mp hx with e | m
                · rw [e]; exact m
                · exact p2 x m
          refine gen ts ys lts fun i t y h1 h2 => ?_
          have hi : i < (ys.map V.int).length := by
            have := (List.getElem?_eq_some_iff.mp h2).1
            rw [List.length_map]
            exact this
          obtain ⟨h, m, e0, nt, k⟩ := paired_idx r5 (a := i) (by rw [List.getElem?_range hi]) h1
          exact ⟨h, m, Option.some.inj (h2.symm.trans e0), nt, k⟩
        obtain ⟨hs, p1, p2, p3⟩ := get
        have all : ∀ h ∈ L, h ∈ hs := fun h mh => by
          have : (h.1 : Int) ∈ ys := hperm.mem_iff.mpr (List.mem_map.mpr ⟨h, mh, rfl⟩)
          rw [← p3] at this
          obtain ⟨g, mg, e⟩ := List.mem_map.mp this
          have e1 : g.1 = h.1 := by omega
          have : g = h := by
            obtain ⟨i, hi, ei⟩ := List.getElem_of_mem (p2 g mg)
            obtain ⟨j, hj, ej⟩ := List.getElem_of_mem mh
            have h1 : (L.map (·.1))[i]? = some h.1 := by rw [List.getElem?_map, List.getElem?_eq_getElem hi, ei]; exact congrArg some e1
            have h2 : (L.map (·.1))[j]? = some h.1 := by rw [List.getElem?_map, List.getElem?_eq_getElem hj, ej]; rfl
            have := nodup_at R.nd h1 h2
            subst this
            exact ei.symm.trans ej
          rw [← this]
          exact mg
        refine q _ D3 ts (hs.map (·.2)) (s12.trans (s3.trans s4)) ((s12.trans s3).free hD3) e4 ?_ (by rw [List.length_map, ← red_lenI hs, p3, leny]; exact red_len R) (fun f hf => ?_) fun u => ?_
        · exact paired_map_r (g := fun h : Head => h.2) p1
        · obtain ⟨h, m, rfl⟩ := List.mem_map.mp hf
          exact ⟨R.ok h (p2 h m), tl h (p2 h m)⟩
        · have e : (∀ f ∈ hs.map (·.2), Van p n u f) ↔ Ann p n L u := by
            constructor
            · exact fun h g mg => h _ (List.mem_map.mpr ⟨g, all g mg, rfl⟩)
            · intro h f hf
              obtain ⟨g, m, rfl⟩ := List.mem_map.mp hf
              exact h g (p2 g m)
          rw [e, ann u]
          constructor
          · intro h xs hx
            exact van_mod.mp (h _ (List.mem_map.mpr ⟨xs, hx, rfl⟩))
          · intro h f hf
            obtain ⟨xs, m, rfl⟩ := List.mem_map.mp hf
            exact van_mod.mpr (h xs m)
end
end Kz
end
section
set_option Elab.async false
set_option linter.all false
set_option maxRecDepth 100000
set_option maxHeartbeats 4000000
/-! the books -/
namespace Kz
open PySem PySem.Spec PyProof.Rows L2 KzM
/-- a def of a class, as it stands -/
structure MetAt (K : PySem.W.Frag) (x qual : Str) (st : Stmt) (f : Addr) : Prop where
  F : ∃ fd, FunD K x qual (defArgs st) (defBody st) (defScope st) [] [] f fd
structure MetS (P : Program) (w : World) (K : PySem.W.Frag) (mg : Str → Option Value) (base : Heap) (CX : CXT) (k : Nat) (f : Addr) (ps : List Str) (sp : Sp) : Prop where
  ok : FnOk P w K mg base CX k f (fdOf K f) ps sp
  b : Binds K (fdOf K f) ps []
theorem mkMet {P : Program} {w : World} {K : PySem.W.Frag} {mg : Str → Option Value} {base : Heap} {CX : CXT} {N ps : List Str} {k : Nat} {sp : Sp} {x qual : Str} {st : Stmt} {f : Addr} (D : MetAt K x qual st f) (S : FnScope N ps (defScope st))
    (hb : ∀ (kV doc pm : Value) (an : Option Addr) (cdv ct : Value) (us : List Value), us.length = ps.length → bindArgs (PySem.W.fnOf x qual (defArgs st) (defBody st) (defScope st) .none kV doc pm an cdv ct) ⟨us, []⟩ = pure (ps.zip us))
    (len : ∀ vs H Q E, sp vs H Q E → vs.length = ps.length)
    (body : ∀ (cdv : Value) (A : Around) (outer : List Env) (s : Shared) (H : Hp) (vs : List V) (Q : VK) (E : XK), Room k (A.deeper (envOfC qual (defScope st) s.heap.objs.size f cdv)) → sp vs H Q E →
      ∃ t, PSs (cxOf CX P w K mg base N qual (defScope st) f cdv A outer s H E) (defBody st) t ∧ t { nx := fun _ H' => Q .non H', rt := Q } (start N vs) H) : MetS P w K mg base CX (k + 1) f ps sp := by
  obtain ⟨fd, F⟩ := D.F
  have e : fdOf K f = fd := by
    obtain ⟨oc, od, dV, kV, doc, pm, an, cdv, ct, osl, h1, h2, _⟩ := F.ex
    unfold fdOf
    rw [h2]
  refine ⟨?_, ?_⟩
  · rw [e]
    exact F.ok S len body
  · rw [e]
    exact F.bindsN hb
/-- the class Rules, as it stands -/
structure RuT (K : PySem.W.Frag) (mg : Str → Option Value) (C f : Addr) : Prop where
  cl : Cls K C
  nP : NoAttr K C "prime"
  nL : NoAttr K C "letters"
  nR : NoAttr K C "rules"
  g : mg "Rules" = some (.ref C)
  mkr : Mk K C f
  a1 : PySem.W.findIn K (.ref C) "__class__" = some (some (.builtin "object.__class__"))
  a2 : PySem.W.specialIn K (.builtin "object.__class__") "__get__" = some (some (.builtin "getset_descriptor.__get__"))
  a3 : PySem.W.takesIn K (.builtin "object.__class__") = some true
  a4 : PySem.W.mroIn K C (.type "object") = some true
  is1 : PySem.W.kitOne K (.ref C) (.ref C) = some true
/-- a book of rules: its prime, its letters, its rows -/
def BookAt (K : PySem.W.Frag) (C : Addr) (H : Hp) (b : Addr) (p : Int) (n : Nat) (fs : List (Nat → Int)) : Prop := ∃ (dx rt : Addr) (fl : List (Str × V)) (ts : List Addr), H b = some (.ins C dx fl) ∧ fl.lookup ("prime" : Str) = some (.int p) ∧ fl.lookup ("letters" : Str) = some (.int (n : Nat)) ∧ fl.lookup ("rules" : Str) = some (.ref rt) ∧
  SqT K H rt (ts.map V.ref) ∧ Paired (fun t f => RowT K H (n * n) t f) ts fs ∧ p ∈ fieldsL ∧ 1 ≤ n ∧ n ≤ 5 ∧ fs.length ≤ 64 ∧ ∀ f ∈ fs, RowOk p (n * n) f ∧ Two f
theorem BookAt.mono {K : PySem.W.Frag} {C : Addr} {H H' : Hp} {b : Addr} {p : Int} {n : Nat} {fs : List (Nat → Int)} (s : Same H H') (h : BookAt K C H b p n fs) : BookAt K C H' b p n fs := by
  obtain ⟨dx, rt, fl, ts, e, e1, e2, e3, h1, h2, h3⟩ := h
  exact ⟨dx, rt, fl, ts, s _ _ e, e1, e2, e3, s.seqT h1, paired_imp h2 fun _ _ r => r.mono s, h3⟩
theorem seqL_ins {K : PySem.W.Frag} {H H' : Hp} {x a C dx : Addr} {fl : List (Str × V)} {xs : List V} (b : But x H H') (hx : H x = some (.ins C dx fl)) (h : SqL K H a xs) : SqL K H' a xs := by
  have ne : ∀ {o : HO}, H a = some o → (∀ C dx fl, o ≠ .ins C dx fl) → a ≠ x := fun {o} e n q => by
    rw [q, hx] at e
    exact n _ _ _ (Option.some.inj e).symm
  rcases h with (h | ⟨o, h⟩) | h
  · exact .inl (.inl (b _ _ (ne h fun _ _ _ z => nomatch z) h))
  · exact .inl (.inr ⟨o, b _ _ (ne h fun _ _ _ z => nomatch z) h⟩)
  · exact .inr h
theorem seqT_ins {K : PySem.W.Frag} {H H' : Hp} {x a C dx : Addr} {fl : List (Str × V)} {xs : List V} (b : But x H H') (hx : H x = some (.ins C dx fl)) (h : SqT K H a xs) : SqT K H' a xs := by
  have ne : ∀ {o : HO}, H a = some o → (∀ C dx fl, o ≠ .ins C dx fl) → a ≠ x := fun {o} e n q => by
    rw [q, hx] at e
    exact n _ _ _ (Option.some.inj e).symm
  rcases h with (h | ⟨o, h⟩) | h
  · exact .inl (.inl (b _ _ (ne h fun _ _ _ z => nomatch z) h))
  · exact .inl (.inr ⟨o, b _ _ (ne h fun _ _ _ z => nomatch z) h⟩)
  · exact .inr h
theorem seqX_ins {K : PySem.W.Frag} {H H' : Hp} {x a C dx : Addr} {fl : List (Str × V)} {xs : List V} (b : But x H H') (hx : H x = some (.ins C dx fl)) (h : SqX K H a xs) : SqX K H' a xs := h.elim (fun h => .inl (seqL_ins b hx h)) fun h => .inr (seqT_ins b hx h)
def pairF (n : Nat) : List (Nat × Nat × Int) → Nat → Int
  | [], _ => 0
  | (x, y, z) :: r, k => (if x * n + y = k then z else 0) + pairF n r k
theorem pairF_snoc (n : Nat) (x y : Nat) (z : Int) (k : Nat) : ∀ r : List (Nat × Nat × Int), pairF n (r ++ [(x, y, z)]) k = pairF n r k + (if x * n + y = k then z else 0)
  | [] => by
    show (if x * n + y = k then z else 0) + 0 = 0 + _
    omega
  | (a, b, c) :: r => by
    show (if a * n + b = k then c else 0) + pairF n (r ++ [(x, y, z)]) k = (if a * n + b = k then c else 0) + pairF n r k + _
    rw [pairF_snoc n x y z k r]
    omega
def TripT (K : PySem.W.Frag) (H : Hp) (t : Addr) (x : Nat × Nat × Int) : Prop := SqT K H t [.int (x.1 : Nat), .int (x.2.1 : Nat), .int x.2.2]
def spPairRow (K : PySem.W.Frag) : Sp := fun vs H Q _ => ∃ (n : Nat) (a : Addr) (ts : List Addr) (trs : List (Nat × Nat × Int)), vs = [.int (n : Nat), .ref a] ∧ SqL K H a (ts.map V.ref) ∧ Paired (fun t x => TripT K H t x) ts trs ∧ n ≤ 9 ∧ (∀ x ∈ trs, x.1 < n ∧ x.2.1 < n) ∧
  ∀ H' d (xs : List Int), Same H H' → H d = none → H' d = some (.lst (xs.map V.int)) → xs.length = n * n → (∀ k, xs.getD k 0 = pairF n trs k) → Q (.ref d) H'
def spNeedBook (K : PySem.W.Frag) (C : Addr) : Sp := fun vs H Q _ => ∃ b p n fs, vs = [.ref b] ∧ BookAt K C H b p n fs ∧ Q .non H
def spInit (K : PySem.W.Frag) (C : Addr) : Sp := fun vs H Q _ => ∃ (x dx : Addr) (p : Int) (n : Nat) (a : Addr) (rs : List Addr) (xss : List (List Int)), vs = [.ref x, .int p, .int (n : Nat), .ref a] ∧ H x = some (.ins C dx []) ∧ SqL K H a (rs.map V.ref) ∧ Paired (fun r xs => SqX K H r (xs.map V.int)) rs xss ∧
  p ∈ fieldsL ∧ 1 ≤ n ∧ n ≤ 5 ∧ rs.length < 10000 ∧ (∀ xs ∈ xss, xs.length = n * n ∧ Two (fun k => xs.getD k 0 % p)) ∧
  ∀ H' fs, But x H H' → BookAt K C H' x p n fs → (∀ u, (∀ f ∈ fs, Van p (n * n) u f) ↔ ∀ xs ∈ xss, Van p (n * n) u (fun k => xs.getD k 0)) → Q .non H'
theorem pd_ints {K : PySem.W.Frag} {H : Hp} : ∀ xs : List Int, PDRs K H (xs.map V.int) (xs.map PD.int)
  | [] => .nil
  | x :: xs => .cons (.int x) (pd_ints xs)
theorem pd_rows {K : PySem.W.Frag} {H : Hp} : ∀ {rs : List Addr} {xss : List (List Int)}, Paired (fun r xs => SqX K H r (xs.map V.int)) rs xss → PDRs K H (rs.map V.ref) (xss.map fun xs => PD.seq (xs.map PD.int))
  | _, _, .nil => .nil
  | _, _, .cons r t => .cons (.seq r (pd_ints _)) (pd_rows t)
section
variable {P : Program} {w : World} {K : PySem.W.Frag} {mg : Str → Option Value} {base : Heap}
abbrev N_pair_row : List Str := ["letters", "pairs", "found", "first", "second", "number"]
theorem sc_pair_row : FnScope N_pair_row ["letters", "pairs"] (defScope sd_pair_row) := ⟨rfl, rfl, rfl, by decide +kernel, rfl, by decide +kernel, by decide +kernel⟩
theorem f_pair_row (D : DefAt K mg "pair_row" sd_pair_row) (T : Txt K mg) : FnS P w K mg base CX0 1 "pair_row" ["letters", "pairs"] (spPairRow K) :=
  mkFn D sc_pair_row (fun _ _ _ _ _ _ us hl => match us, hl with | [_, _], _ => rfl) (fun vs H Q E ⟨_, _, _, _, e, _⟩ => by rw [e]; rfl) fun cdv A outer s H vs Q E hr ⟨n, a, ts, trs, e, ha, ht, hn, hlt, q⟩ => by
  subst e
  refine ⟨_, (pss_cons (ps_set (i := 2) sc_pair_row.nd rfl (.inl rfl) (pe_op op_rep (pe_lst (pa_cons pe_int pa_nil)) (pe_op op_mul (pv 0) (pv 0))))
      (pss_cons (ps_for (passes_of rfl) rfl (pi_list (pv 1)) (pg_tup rfl (pgs_cons (pg_name (i := 3) sc_pair_row.nd rfl (.inl rfl)) (pgs_cons (pg_name (i := 4) sc_pair_row.nd rfl (.inl rfl)) (pgs_cons (pg_name (i := 5) sc_pair_row.nd rfl (.inl rfl)) pgs_nil)))) (pss_one (ps_augS (pv 2) (pe_op op_add (pe_op op_mul (pv 3) (pv 0)) (pv 4)) get_list (pv 5) ip_add set_list)))
      (pss_one (ps_ret (pv 2))))), ?_⟩
  have big : 10000 < sizeLine := by decide
  have n2 : n * n ≤ 81 := Nat.mul_le_mul hn hn
  refine ⟨(by show 1 ≤ sizeLine; decide), fun o ho => ⟨_, rfl, _, rfl, _, _, rfl, rfl, .inl ⟨by omega, by omega⟩, ?_⟩⟩
  have e0 : ((n : Int) * (n : Int)) = ((n * n : Nat) : Int) := by simp
  refine ⟨o, ((n * n : Nat) : Int), _, rfl, congrArg V.int e0, upd_same, by omega, by omega, ?_, fun d hd => ?_⟩
  · show 1 * ((n * n : Nat) : Int).toNat ≤ sizeLine
    rw [Int.toNat_natCast]
    omega
  have s1 : Same H (upd H o (.lst [.int 0])) := Same.new ho
  have s2 := s1.trans (Same.new (o := .lst (List.replicate ((n * n : Nat) : Int).toNat [V.int 0]).flatten) hd)
  have hdH : H d = none := s1.free hd
  have erep : (List.replicate ((n * n : Nat) : Int).toNat [V.int 0]).flatten = (List.replicate (n * n) (0 : Int)).map V.int := by
    rw [Int.toNat_natCast]
    generalize n * n = m
    induction m with
    | zero => rfl
    | succ m ih =>
      rw [List.replicate_succ, List.replicate_succ, List.flatten_cons, ih]
      rfl
  refine ⟨_, rfl, a, rfl, ⟨_, s2.seq ha⟩, for_walk wk_list (fun i σ H' => ∃ (xs : List Int) (x3 x4 x5 : Option V), σ = [some (.int (n : Nat)), some (.ref a), some (.ref d), x3, x4, x5] ∧ Same H H' ∧ H' d = some (.lst (xs.map V.int)) ∧ xs.length = n * n ∧ ∀ k, xs.getD k 0 = pairF n (trs.take i) k)
    ⟨List.replicate (n * n) 0, _, _, _, rfl, s2, by rw [upd_same, erep], List.length_replicate, fun k => ?_⟩ (fun i σ H' hi ⟨_, _, _, _, _, s3, _⟩ => s3.seq ha) (fun i x σ H1 H2 hi ⟨xs, x3, x4, x5, eσ, s3, hx, lx, gx⟩ s4 it => ?_) fun σ H1 ⟨xs, x3, x4, x5, eσ, s3, hx, lx, gx⟩ => ?_⟩
  · show (List.replicate (n * n) (0 : Int)).getD k 0 = 0
    rw [List.getD_eq_getElem?_getD, List.getElem?_replicate]
    by_cases h : k < n * n
    · rw [if_pos h]; rfl
    · rw [if_neg h]; rfl
  · subst eσ
    obtain ⟨t, ht1, ex⟩ : ∃ t, ts[i]? = some t ∧ x = .ref t := by
      have it : (ts.map V.ref)[i]? = some x := it
      rw [List.getElem?_map] at it
      cases e : ts[i]? with
      | none => rw [e] at it; cases it
      | some d => rw [e] at it; exact ⟨d, rfl, (Option.some.inj it).symm⟩
    subst ex
    obtain ⟨⟨x, y, z⟩, htr, tt⟩ := paired_at2 ht ht1
    have lts := hlt _ (List.mem_of_getElem? htr)
    have l1 : x < n := lts.1
    have l2 : y < n := lts.2
    have lxy : x * n + y < n * n := by
      have : (x + 1) * n ≤ n * n := Nat.mul_le_mul_right n l1
      rw [Nat.add_mul, Nat.one_mul] at this
      omega
    have s13 := s3.trans s4
    have hx2 := s4 _ _ hx
    have exy : ((x : Int) * (n : Int) + (y : Int)) = ((x * n + y : Nat) : Int) := by simp
    refine ⟨t, _, rfl, s13.seqT tt, rfl, _, _, rfl, _, _, rfl, _, _, rfl, rfl, ?_⟩
    have gi : (xs.map V.int)[x * n + y]? = some (.int (xs.getD (x * n + y) 0)) := by
      rw [List.getElem?_map, List.getD_eq_getElem?_getD, List.getElem?_eq_getElem (by omega)]
      rfl
    refine ⟨_, rfl, _, rfl, _, rfl, _, _, rfl, rfl, .inr ⟨by omega, by omega⟩, _, rfl, _, _, rfl, rfl, d, _, x * n + y, _, rfl, by rw [← exy], SqL.of hx2, gi, _, rfl, _, _, rfl, rfl, d, _, ((x * n + y : Nat) : Int), x * n + y, rfl, by rw [← exy], hx2, ?_, ?_⟩
    · unfold ixN
      rw [if_pos (by omega), if_pos (by rw [List.length_map, lx]; omega)]
      exact congrArg some (Int.toNat_natCast _)
    · refine ⟨xs.set (x * n + y) (xs.getD (x * n + y) 0 + z), _, _, _, rfl, s13.put hdH, by rw [upd_same, List.map_set], by rw [List.length_set]; exact lx, fun k => ?_⟩
      rw [List.take_add_one, htr]
      show _ = pairF n (trs.take i ++ [(x, y, z)]) k
      rw [pairF_snoc, List.getD_eq_getElem?_getD, List.getElem?_set]
      by_cases e : x * n + y = k
      · subst e
        rw [if_pos rfl, if_pos rfl, if_pos (by omega), gx]
        rfl
      · rw [if_neg e, if_neg e, ← List.getD_eq_getElem?_getD, gx]
        omega
  · subst eσ
    refine ⟨_, rfl, q H1 d xs s3 hdH hx lx fun k => ?_⟩
    rw [gx k, List.length_map, paired_len ht, List.take_length]
abbrev N_need_book : List Str := ["thing"]
theorem sc_need_book : FnScope N_need_book ["thing"] (defScope sd_need_book) := ⟨rfl, rfl, rfl, by decide +kernel, rfl, by decide +kernel, by decide +kernel⟩
theorem f_need_book {C fI : Addr} (D : DefAt K mg "need_book" sd_need_book) (T : Txt K mg) (U : RuT K mg C fI) : FnS P w K mg base CX0 1 "need_book" ["thing"] (spNeedBook K C) :=
  mkFn D sc_need_book (fun _ _ _ _ _ _ us hl => match us, hl with | [_], _ => rfl) (fun vs H Q E ⟨_, _, _, _, e, _⟩ => by rw [e]; rfl) fun cdv A outer s H vs Q E hr ⟨b, p, n, fs, e, ⟨dx, rt, fl, ts, hb, _⟩, q⟩ => by
  subst e
  refine ⟨_, (pss_one (ps_if (pt_not (pt_val (pe_callB call_isi (by rfl) T.isinstance_ bo_isinstance (pa_cons (pv 0) (pa_cons (pe_glob (v := .ref _) rfl U.g rfl) pa_nil))))) (pss_one ps_never) pss_nil)), ?_⟩
  exact ⟨_, rfl, .ref b, .ref C, .ref C, .ref C, true, rfl, .own C, .base (.ins hb U.cl U.a1 U.a2 U.a3 U.a4), U.is1, _, rfl, q⟩
end
section
variable {w : World} {K : PySem.W.Frag} {mg : Str → Option Value} {base : Heap}
abbrev N_Rules___init__ : List Str := ["self", "prime", "letters", "rows"]
theorem sc_Rules___init__ : FnScope N_Rules___init__ ["self", "prime", "letters", "rows"] (defScope sd_Rules___init__) := ⟨rfl, rfl, rfl, by decide +kernel, rfl, by decide +kernel, by decide +kernel⟩
theorem f_init {C fI CB fB : Addr} (D : MetAt K "__init__" "Rules.__init__" sd_Rules___init__ fI) (T : Txt K mg) (U : RuT K mg C fI) (f_need_prime : FnS PG w K mg base CX0 2 "need_prime" ["prime"] spNeedPrime) (f_need_letters : FnS PG w K mg base (L2.CX PG w) 3 "need_letters" ["letters"] (spNeedLetters K CB))
    (f_need_rows : FnS PG w K mg base CX0 4 "need_rows" ["thing", "size"] (spNeedRows K)) (f_tidy_rows : FnS PG w K mg base CX0 4 "tidy_rows" ["prime", "size", "rows"] (spTidy K)) : MetS PG w K mg base CX0 5 fI ["self", "prime", "letters", "rows"] (spInit K C) :=
  mkMet D sc_Rules___init__ (fun _ _ _ _ _ _ us hl => match us, hl with | [_, _, _, _], _ => rfl) (fun vs H Q E ⟨_, _, _, _, _, _, _, e, _⟩ => by rw [e]; rfl) fun cdv A outer s H vs Q E hr ⟨x, dx, p, n, a, rs, xss, e, hx, hrs, hxs, hp, h1, h5, hz, hok, q⟩ => by
  subst e
  refine ⟨_, (pss_cons (ps_expr (pe_call f_need_prime.ok (hr.mono (by decide)) rfl f_need_prime.g f_need_prime.kp f_need_prime.b .nil pass0 (pa_cons (pv 1) pa_nil)))
      (pss_cons (ps_expr (pe_call f_need_letters.ok (hr.mono (by decide)) rfl f_need_letters.g f_need_letters.kp f_need_letters.b .nil passN (pa_cons (pv 2) pa_nil)))
      (pss_cons (ps_expr (pe_call f_need_rows.ok (hr.mono (by decide)) rfl f_need_rows.g f_need_rows.kp f_need_rows.b .nil pass0 (pa_cons (pv 3) (pa_cons (pe_op op_mul (pv 2) (pv 2)) pa_nil))))
      (pss_cons (ps_fld (pv 0) (pv 1) rfl)
      (pss_cons (ps_fld (pv 0) (pv 2) rfl)
      (pss_one (ps_fld (pv 0) (pe_callTy call_tuple_of (by rfl) T.tuple_ bo_tuple (pa_cons (pe_call f_tidy_rows.ok (hr.mono (by decide)) rfl f_tidy_rows.g f_tidy_rows.kp f_tidy_rows.b .nil pass0 (pa_cons (pv 1) (pa_cons (pe_op op_mul (pv 2) (pv 2)) (pa_cons (pv 3) pa_nil)))) pa_nil)) rfl))))))), ?_⟩
  have big : 10000 < sizeLine := by decide
  have n2 : n * n ≤ 25 := Nat.mul_le_mul h5 h5
  have e0 : ((n : Int) * (n : Int)) = ((n * n : Nat) : Int) := by simp
  refine ⟨_, rfl, p, rfl, fields_prime hp, ?_⟩
  refine ⟨_, rfl, .int n, .int n, rfl, .int n, fun _ => ?_, fun z => ?_⟩
  · have ll : xss.length = rs.length := (paired_len hxs).symm
    refine ⟨_, rfl, _, rfl, _, rfl, _, _, rfl, rfl, .inl ⟨by omega, by omega⟩, .ref a, _, _, rfl, .seq (.inl hrs) (pd_rows hxs), ⟨by rw [List.length_map]; omega, fun y hy => ?_⟩, ?_, fun H1 s1 => ?_⟩
    · obtain ⟨xs, m, rfl⟩ := List.mem_map.mp hy
      show (xs.map PD.int).length < sizeLine
      rw [List.length_map, (hok xs m).1]
      omega
    · show ((xss.map fun xs => PD.seq (xs.map PD.int)).all (rowD ((n : Int) * n))) = true
      rw [List.all_eq_true]
      intro y hy
      obtain ⟨xs, m, rfl⟩ := List.mem_map.mp hy
      show (decide (((xs.map PD.int).length : Int) = (n : Int) * n) && (xs.map PD.int).all isNumD) = true
      rw [List.length_map, (hok xs m).1, e0, decide_eq_true rfl, Bool.true_and, List.all_map, List.all_eq_true]
      intro z _
      rfl
    · refine ⟨_, rfl, _, rfl, x, C, dx, [], rfl, s1 _ _ hx, U.cl, U.nP, by show 0 < 1000; decide, ?_⟩
      refine ⟨_, rfl, _, rfl, x, C, dx, _, rfl, upd_same, U.cl, U.nL, by show 1 < 1000; decide, ?_⟩
      have b1 : But x H (upd (upd H1 x (.ins C dx (putF "prime" (.int p) []))) x (.ins C dx (putF "letters" (.int (n : Nat)) (putF "prime" (.int p) [])))) := fun b o nb e => by
        rw [upd_ne nb, upd_ne nb]
        exact s1 _ _ e
      generalize hH2 : upd (upd H1 x (.ins C dx (putF "prime" (.int p) []))) x (.ins C dx (putF "letters" (.int (n : Nat)) (putF "prime" (.int p) []))) = H2 at b1
      have hx2 : H2 x = some (.ins C dx (putF "letters" (.int (n : Nat)) (putF "prime" (.int p) []))) := by rw [← hH2, upd_same]
      have hrs2 : SqL K H2 a (rs.map V.ref) := seqL_ins b1 hx hrs
      have hxs2 := paired_imp hxs fun r xs h => seqX_ins (K := K) b1 hx h
      refine ⟨_, rfl, _, rfl, _, rfl, _, _, rfl, rfl, .inl ⟨by omega, by omega⟩, _, rfl, p, n * n, a, rs, xss, (by show [V.int p, V.int ((n : Int) * n), V.ref a] = _; rw [e0]), hrs2, hxs2, hp, by omega, by omega, fun xs m => ⟨Nat.le_of_eq (hok xs m).1, (hok xs m).2⟩, fun H3 d ts fs s3 hd e3 pr lfs rok ann => ?_⟩
      refine ⟨d, _, rfl, .inl ⟨SqL.of e3, fun rt hrt => ?_⟩⟩
      have nxr : x ≠ rt := ne_of_none (s3 _ _ hx2) hrt
      refine ⟨_, rfl, x, C, dx, _, rfl, by rw [upd_ne nxr]; exact s3 _ _ hx2, U.cl, U.nR, by show 2 < 1000; decide, ?_⟩
      have sxr : rt ≠ x := nxr.symm
      have ndx : d ≠ x := ne_of_none' hx2 hd
      refine q _ fs (fun b o nb e => ?_) ⟨dx, rt, _, ts, upd_same, ?_, ?_, ?_, SqT.of (by rw [upd_ne sxr, upd_same]), ?_, hp, h1, h5, ?_, rok⟩ ann
      · rw [upd_ne nb, upd_ne (ne_of_none (s3 _ _ (b1 _ _ nb e)) hrt)]
        exact s3 _ _ (b1 _ _ nb e)
      · rw [lookup_putF, if_neg (by decide +kernel), lookup_putF, if_neg (by decide +kernel), lookup_putF, if_pos rfl]
      · rw [lookup_putF, if_neg (by decide +kernel), lookup_putF, if_pos rfl]
      · rw [lookup_putF, if_pos rfl]
      · refine paired_imp pr fun t f ⟨r, nt⟩ => ?_
        have b3 : But x H3 (upd (upd H3 rt (.tup (ts.map V.ref))) x (.ins C dx (putF "rules" (.ref rt) (putF "letters" (.int (n : Nat)) (putF "prime" (.int p) []))))) := fun b o nb e => by
          rw [upd_ne nb, upd_ne (ne_of_none e hrt)]
          exact e
        exact seqT_ins b3 (s3 _ _ hx2) r
      · omega
  · have : btwD (.int n) 1 9 = true := by simp [btwD]; omega
    rw [this] at z
    cases z
end
end Kz
end
section
set_option Elab.async false
set_option linter.all false
set_option maxRecDepth 100000
set_option maxHeartbeats 4000000
/-! the webs' rows -/
namespace Kz
open PySem PySem.Spec PyProof.Rows L2 KzM
abbrev Trip := Nat × Nat × Int
/-- a web of n letters: its lines, its nothings -/
structure WebOk (n : Nat) (trs : List Trip) (ns : List Nat) : Prop where
  n1 : 1 ≤ n
  n5 : n ≤ 5
  lt : ∀ x ∈ trs, x.1 < x.2.1 ∧ x.2.1 < n
  nd : (trs.map fun x => (x.1, x.2.1)).Nodup
  few : trs.length ≤ 10
  no : ∀ x ∈ ns, x < n
  ndn : ns.Nodup
abbrev tripD (x : Trip) : PD := .seq [.int (x.1 : Nat), .int (x.2.1 : Nat), .int x.2.2]
theorem web_linesD {n : Nat} {trs : List Trip} {ns : List Nat} (W : WebOk n trs ns) : linesD n (.seq (trs.map tripD)) = true := by
  show ((trs.map tripD).all (lineD n) && decide (((trs.map tripD).map pairD).Nodup)) = true
  rw [Bool.and_eq_true]
  constructor
  · rw [List.all_eq_true]
    intro d hd
    obtain ⟨x, hx, rfl⟩ := List.mem_map.mp hd
    obtain ⟨h1, h2⟩ := W.lt x hx
    show (decide ((0 : Int) ≤ (x.1 : Nat)) && (decide (((x.1 : Nat) : Int) < (x.2.1 : Nat)) && decide (((x.2.1 : Nat) : Int) < n))) = true
    rw [decide_eq_true (by omega), decide_eq_true (by omega), decide_eq_true (by omega)]
    rfl
  · refine decide_eq_true ?_
    rw [List.map_map]
    refine List.pairwise_map.mpr (List.Pairwise.imp ?_ (List.pairwise_map.mp W.nd))
    intro a b h q
    refine h ?_
    have q : [((a.1 : Nat) : Int), ((a.2.1 : Nat) : Int)] = [((b.1 : Nat) : Int), ((b.2.1 : Nat) : Int)] := q
    have q1 := (List.cons.inj q).1
    have q2 := (List.cons.inj (List.cons.inj q).2).1
    exact Prod.ext (Int.ofNat.inj q1) (Int.ofNat.inj q2)
theorem web_nothD {n : Nat} {trs : List Trip} {ns : List Nat} (W : WebOk n trs ns) : nothD n (.seq (ns.map fun x => PD.int (x : Nat))) = true := by
  show ((ns.map fun x => PD.int (x : Nat)).all (fun d => btwD d 0 ((n : Int) - 1)) && decide (((ns.map fun x => PD.int (x : Nat)).map intD).Nodup)) = true
  rw [Bool.and_eq_true]
  constructor
  · rw [List.all_eq_true]
    intro d hd
    obtain ⟨x, hx, rfl⟩ := List.mem_map.mp hd
    have := W.no x hx
    show (decide ((0 : Int) ≤ (x : Nat)) && decide (((x : Nat) : Int) ≤ (n : Int) - 1)) = true
    rw [decide_eq_true (by omega), decide_eq_true (by omega)]
    rfl
  · refine decide_eq_true ?_
    rw [List.map_map]
    exact List.pairwise_map.mpr (List.Pairwise.imp (fun {a b} h q => h (by
      have q : ((a : Nat) : Int) = ((b : Nat) : Int) := q
      omega)) W.ndn)
theorem ns_len {n : Nat} {trs : List Trip} {ns : List Nat} (W : WebOk n trs ns) : ns.length ≤ n := by
  have := nodup_len (ys := List.range n) W.ndn fun x hx => List.mem_range.mpr (W.no x hx)
  rw [List.length_range] at this
  exact this
/-- lines as tuples or lists of three -/
def LineX (K : PySem.W.Frag) (H : Hp) (t : Addr) (x : Trip) : Prop := SqX K H t [.int (x.1 : Nat), .int (x.2.1 : Nat), .int x.2.2]
theorem pd_lines {K : PySem.W.Frag} {H : Hp} : ∀ {ts : List Addr} {trs : List Trip}, Paired (fun t x => LineX K H t x) ts trs → PDRs K H (ts.map V.ref) (trs.map tripD)
  | _, _, .nil => .nil
  | _, _, .cons r t => .cons (.seq r (.cons (.int _) (.cons (.int _) (.cons (.int _) .nil)))) (pd_lines t)
theorem pd_nats {K : PySem.W.Frag} {H : Hp} : ∀ ns : List Nat, PDRs K H (ns.map fun x => V.int (x : Nat)) (ns.map fun x => PD.int (x : Nat))
  | [] => .nil
  | x :: xs => .cons (.int _) (pd_nats xs)
/-- what need_web asks, of a web -/
theorem web_btw {n : Nat} {trs : List Trip} {ns : List Nat} (W : WebOk n trs ns) : btwD (.int (n : Nat)) 1 9 = true := by
  have := W.n1
  have := W.n5
  show (decide ((1 : Int) ≤ (n : Nat)) && decide (((n : Nat) : Int) ≤ 9)) = true
  rw [decide_eq_true (by omega), decide_eq_true (by omega)]
  rfl
theorem web_few {n : Nat} {trs : List Trip} {ns : List Nat} (W : WebOk n trs ns) : fewD (.seq (trs.map tripD)) ∧ fewD (.seq (ns.map fun x => PD.int (x : Nat))) := by
  have few := W.few
  have nl := ns_len W
  have n5 := W.n5
  refine ⟨⟨by rw [List.length_map]; omega, fun x hx => ?_⟩, ⟨by rw [List.length_map]; omega, fun x hx => ?_⟩⟩
  · obtain ⟨y, _, rfl⟩ := List.mem_map.mp hx
    show 3 < sizeLine
    decide
  · obtain ⟨y, _, rfl⟩ := List.mem_map.mp hx
    exact True.intro
/-- the lines and nothings as need_web sees them -/
theorem web_see {K : PySem.W.Frag} {H : Hp} {n : Nat} {trs : List Trip} {ns : List Nat} {la oa : Addr} {ts : List Addr} {m : Int} (W : WebOk n trs ns) (hl : SqX K H la (ts.map V.ref)) (ht : Paired (fun t x => LineX K H t x) ts trs) (hn : SqX K H oa (ns.map fun x => V.int (x : Nat))) (em : PD.int (n : Nat) = .int m) :
    PDR K H (.ref la) (.seq (trs.map tripD)) ∧ PDR K H (.ref oa) (.seq (ns.map fun x => PD.int (x : Nat))) ∧ linesD m (.seq (trs.map tripD)) = true ∧ nothD m (.seq (ns.map fun x => PD.int (x : Nat))) = true := by
  obtain rfl : ((n : Nat) : Int) = m := PD.int.inj em
  exact ⟨.seq hl (pd_lines ht), .seq hn (pd_nats ns), web_linesD W, web_nothD W⟩
theorem both_no {a b : Bool} (ha : a = true) (hb : b = true) (h : (a && b) = false) : False := by
  rw [ha, hb] at h
  cases h
/-- a row in a list, told by its entries -/
def RowL (K : PySem.W.Frag) (H : Hp) (n : Nat) (r : Addr) (tl : List Trip) : Prop := ∃ xs : List Int, H r = some (.lst (xs.map V.int)) ∧ xs.length = n * n ∧ ∀ k, xs.getD k 0 = pairF n tl k
theorem RowL.but {K : PySem.W.Frag} {H H' : Hp} {n : Nat} {D r : Addr} {tl : List Trip} (b : But D H H') (ne : r ≠ D) (h : RowL K H n r tl) : RowL K H' n r tl := by
  obtain ⟨xs, e, l, g⟩ := h
  exact ⟨xs, b _ _ ne e, l, g⟩
theorem RowL.mono {K : PySem.W.Frag} {H H' : Hp} {n : Nat} {r : Addr} {tl : List Trip} (s : Same H H') (h : RowL K H n r tl) : RowL K H' n r tl := by
  obtain ⟨xs, e, l, g⟩ := h
  exact ⟨xs, s _ _ e, l, g⟩
def lineTr (x : Trip) : List Trip := [(x.2.1, x.1, 1), (x.1, x.2.1, 0 - x.2.2)]
def webTr (trs : List Trip) (ns : List Nat) : List (List Trip) := trs.map lineTr ++ ns.map fun x => [(x, x, 1)]
def LinesAt (K : PySem.W.Frag) (H : Hp) (la : Addr) (trs : List Trip) : Prop := ∃ ts : List Addr, SqL K H la (ts.map V.ref) ∧ Paired (fun t x => TripT K H t x) ts trs
theorem LinesAt.mono {K : PySem.W.Frag} {H H' : Hp} {la : Addr} {trs : List Trip} (s : Same H H') (h : LinesAt K H la trs) : LinesAt K H' la trs := by
  obtain ⟨ts, h1, h2⟩ := h
  exact ⟨ts, s.seq h1, paired_imp h2 fun _ _ r => s.seqT r⟩
def WebArgs (K : PySem.W.Frag) (H : Hp) (vs : List V) (p : Int) (n : Nat) (trs : List Trip) (ns : List Nat) : Prop := ∃ la oa, vs = [.int p, .int (n : Nat), .ref la, .ref oa] ∧ LinesAt K H la trs ∧ SqL K H oa (ns.map fun x => V.int (x : Nat)) ∧ p ∈ fieldsL ∧ WebOk n trs ns ∧ ∀ x ∈ trs, x.2.2 % p ≠ 0
def spWebRows (K : PySem.W.Frag) : Sp := fun vs H Q _ => ∃ p n trs ns, WebArgs K H vs p n trs ns ∧ ∀ H' d rs, Same H H' → H d = none → H' d = some (.lst (rs.map V.ref)) → Paired (fun r tl => RowL K H' n r tl ∧ r ≠ d) rs (webTr trs ns) → Q (.ref d) H'
section
variable {w : World} {K : PySem.W.Frag} {mg : Str → Option Value} {base : Heap}
abbrev N_web_rows : List Str := ["prime", "letters", "lines", "nothings", "rows", "line", "letter"]
theorem sc_web_rows : FnScope N_web_rows ["prime", "letters", "lines", "nothings"] (defScope sd_web_rows) := ⟨rfl, rfl, rfl, by decide +kernel, rfl, by decide +kernel, by decide +kernel⟩
theorem f_web_rows {CB CW : Addr} (D : DefAt K mg "web_rows" sd_web_rows) (T : Txt K mg) (f_need_prime : FnS PG w K mg base CX0 2 "need_prime" ["prime"] spNeedPrime) (f_need_web : FnS PG w K mg base (L2.CX PG w) 5 "need_web" ["letters", "lines", "nothings"] (spNeedWeb K CB CW)) (f_pair_row : FnS PG w K mg base CX0 1 "pair_row" ["letters", "pairs"] (spPairRow K)) :
    FnS PG w K mg base CX0 6 "web_rows" ["prime", "letters", "lines", "nothings"] (spWebRows K) :=
  mkFn D sc_web_rows (fun _ _ _ _ _ _ us hl => match us, hl with | [_, _, _, _], _ => rfl) (fun vs H Q E ⟨_, _, _, _, ⟨_, _, e, _⟩, _⟩ => by rw [e]; rfl) fun cdv A outer s H vs Q E hr ⟨p, n, trs, ns, ⟨la, oa, e, ⟨ts, hl, ht⟩, ho, hp, W, hw⟩, q⟩ => by
  subst e
  have hp2 := (fields_pos hp).1
  have few := W.few
  have nl := ns_len W
  have n5 := W.n5
  have lts : ts.length = trs.length := paired_len ht
  have big : 10000 < sizeLine := by decide
  refine ⟨_, (pss_cons (ps_expr (pe_call f_need_prime.ok (hr.mono (by decide)) rfl f_need_prime.g f_need_prime.kp f_need_prime.b .nil pass0 (pa_cons (pv 0) pa_nil)))
      (pss_cons (ps_expr (pe_call f_need_web.ok (hr.mono (by decide)) rfl f_need_web.g f_need_web.kp f_need_web.b .nil passN (pa_cons (pv 1) (pa_cons (pv 2) (pa_cons (pv 3) pa_nil)))))
      (pss_cons (ps_if (pt_val (pe_callB (cr_any rfl) (by rfl) T.any_ bo_any (pa_cons (pe_lc (own := [("line", 5)]) (g := (gName 5)) rfl sc_web_rows.nd (pi_list (pv 2)) (blkOk_by (N := N_web_rows) (sc := defScope sd_web_rows) (by decide +kernel)) (fun _ _ _ _ _ => (pg_name (i := 5) sc_web_rows.nd rfl (.inl rfl))) (fun _ _ _ _ _ => pts_nil) (fun _ _ _ _ _ => (pe_cmpR op_eq (pe_op op_mod (pe_ix (ix_tup : IxR _ (rIxT K)) (pv 5) pe_int (fun _ _ => rfl)) (pv 0)) pe_int (nomark _)))) pa_nil))) (pss_one ps_never) pss_nil)
      (pss_cons (ps_setLc (i := 4) (own := [("line", 5)]) (g := (gName 5)) rfl sc_web_rows.nd rfl rfl (sw_true rfl rfl rfl (by decide +kernel)) (pi_list (pv 2)) (blkOk_by (N := N_web_rows) (sc := defScope sd_web_rows) (by decide +kernel)) (fun _ _ _ _ _ => (pg_name (i := 5) sc_web_rows.nd rfl (.inl rfl))) (fun _ _ _ _ _ => pts_nil) (fun _ _ _ _ _ => (pe_call f_pair_row.ok (hr.mono (by decide)) rfl f_pair_row.g f_pair_row.kp f_pair_row.b .nil pass0 (pa_cons (pv 1) (pa_cons (pe_lst (pa_cons (pe_tup (pa_cons (pe_ix (ix_tup : IxR _ (rIxT K)) (pv 5) pe_int (fun _ _ => rfl)) (pa_cons (pe_ix (ix_tup : IxR _ (rIxT K)) (pv 5) pe_int (fun _ _ => rfl)) (pa_cons pe_int pa_nil)))) (pa_cons (pe_tup (pa_cons (pe_ix (ix_tup : IxR _ (rIxT K)) (pv 5) pe_int (fun _ _ => rfl)) (pa_cons (pe_ix (ix_tup : IxR _ (rIxT K)) (pv 5) pe_int (fun _ _ => rfl)) (pa_cons (pe_op op_sub pe_int (pe_ix (ix_tup : IxR _ (rIxT K)) (pv 5) pe_int (fun _ _ => rfl))) pa_nil)))) pa_nil))) pa_nil)))))
      (pss_one (ps_ret (pe_op op_cat (pv 4) (pe_lc (own := [("letter", 6)]) (g := (gName 6)) rfl sc_web_rows.nd (pi_list (pv 3)) (blkOk_by (N := N_web_rows) (sc := defScope sd_web_rows) (by decide +kernel)) (fun _ _ _ _ _ => (pg_name (i := 6) sc_web_rows.nd rfl (.inl rfl))) (fun _ _ _ _ _ => pts_nil) (fun _ _ _ _ _ => (pe_call f_pair_row.ok (hr.mono (by decide)) rfl f_pair_row.g f_pair_row.kp f_pair_row.b .nil pass0 (pa_cons (pv 1) (pa_cons (pe_lst (pa_cons (pe_tup (pa_cons (pv 6) (pa_cons (pv 6) (pa_cons pe_int pa_nil)))) pa_nil)) pa_nil)))))))))))), ?_⟩
  refine ⟨_, rfl, p, rfl, fields_prime hp, ?_⟩
  refine ⟨_, rfl, _, rfl, _, rfl, ?_⟩
  refine ⟨_, _, _, .seq (trs.map tripD), _, .seq (ns.map fun x => PD.int (x : Nat)), rfl, .int _, (fun z => by rw [web_btw W] at z; cases z), fun m em _ => ?_⟩
  obtain ⟨c1, c2, c3, c4⟩ := web_see (m := m) W (.inl hl) (paired_imp ht fun t x r => .inr r) (.inl ho) em
  refine ⟨c1, (web_few W).1, c2, (web_few W).2, fun _ _ H1 s1 => ?_, fun z => (both_no c3 c4 z).elim⟩
  have hl1 := s1.seq hl
  have at_ : ∀ {H' : Hp} {i : Nat} {x : V}, Same H H' → (ts.map V.ref)[i]? = some x → ∃ t y, trs[i]? = some y ∧ x = .ref t ∧ SqT K H' t [.int (y.1 : Nat), .int (y.2.1 : Nat), .int y.2.2] := fun {H' i x} s h => by
    rw [List.getElem?_map] at h
    cases e : ts[i]? with
    | none => rw [e] at h; cases h
    | some t =>
      rw [e] at h
      obtain ⟨y, hy, r⟩ := paired_at2 ht e
      exact ⟨t, y, hy, (Option.some.inj h).symm, s.seqT r⟩
  -- no weight is 0
  dsimp only
  refine seq1 (if1 (test1 (tcb1 (lcL_V (K := K) (fun i => .bl (match trs[i]? with | some y => decide (y.2.2 % p = 0) | none => false)) (fun R h => ⟨_, rfl, h⟩) hl1 (by rw [List.length_map]; omega) (fun D i x H' C hi hxi s2 hD ac k => ?_) fun D H2 s2 hD e2 => ?_))))
  · obtain ⟨t, y, hy, rfl, ty⟩ := at_ (s1.trans s2) hxi
    refine ⟨rfl, _, rfl, t, _, 2, _, rfl, rfl, ty, atI_nat (j := 2) rfl, _, rfl, _, _, rfl, rfl, (by omega), rfl, ?_⟩
    have := k H' (Same.refl _)
    rw [hy] at this
    have e : decide (V.int (y.2.2 % p) = V.int 0) = decide (y.2.2 % p = 0) := by
      by_cases z : y.2.2 % p = 0
      · rw [decide_eq_true z, decide_eq_true (congrArg V.int z)]
      · rw [decide_eq_false z, decide_eq_false fun q => z (V.int.inj q)]
    show C (V.bl (decide (V.int (y.2.2 % p) = V.int 0))) H'
    rw [e]
    exact this
  have eb : (List.range (ts.map V.ref).length).map (fun i => V.bl (match trs[i]? with | some y => decide (y.2.2 % p = 0) | none => false)) = (trs.map fun y => decide (y.2.2 % p = 0)).map V.bl := by
    rw [List.length_map, lts, range_map trs _ (fun y => V.bl (decide (y.2.2 % p = 0))) fun i a h => by rw [h], List.map_map]
    rfl
  rw [eb] at e2
  refine ⟨D, _, rfl, SqL.of e2, _, rfl, ?_⟩
  have ea : (trs.map fun y => decide (y.2.2 % p = 0)).any id = false := by
    rw [List.any_map, List.any_eq_false]
    intro y hy
    show ¬ decide (y.2.2 % p = 0) = true
    rw [decide_eq_false (hw y hy)]
    decide
  rw [ea]
  have s12 := s1.trans s2
  -- rows of the lines
  refine ⟨_, rfl, la, rfl, ⟨_, s12.seq hl⟩, lc_walk (wk_list (K := K) (a := la) (xs := ts.map V.ref)) (fun _ => true) (fun D i y H => ∃ r tl, (trs.map lineTr)[i]? = some tl ∧ y = V.ref r ∧ r ≠ D ∧ RowL K H n r tl) (fun D i y H1 H2 b ⟨r, tl, e0, e1, ne, k⟩ => ⟨r, tl, e0, e1, ne, k.but b ne⟩) (by rw [List.length_map]; omega) (s12.seq hl)
    (fun DD i x H' C N hi hxi s3 hDD ac kC kN => ?_) fun DD H3 ys s3 hDD e3 r3 => ?_⟩
  · obtain ⟨t, y, hy, rfl, ty⟩ := at_ (s12.trans s3) hxi
    obtain ⟨acc, hacc⟩ := ac
    obtain ⟨y1, y2⟩ := W.lt y (List.mem_of_getElem? hy)
    refine ⟨rfl, _, rfl, _, rfl, t, _, 1, _, rfl, rfl, ty, atI_nat (j := 1) rfl, _, rfl, t, _, 0, _, rfl, rfl, ty, atI_nat (j := 0) rfl, (by show 3 ≤ sizeLine; decide), fun t1 ht1 => ?_⟩
    have s4 : Same H' (upd H' t1 (.tup [.int (y.2.1 : Nat), .int (y.1 : Nat), .int 1])) := Same.new ht1
    refine ⟨_, rfl, t, _, 0, _, rfl, rfl, s4.seqT ty, atI_nat (j := 0) rfl, _, rfl, t, _, 1, _, rfl, rfl, s4.seqT ty, atI_nat (j := 1) rfl, _, rfl, t, _, 2, _, rfl, rfl, s4.seqT ty, atI_nat (j := 2) rfl, _, _, rfl, rfl, (by show 3 ≤ sizeLine; decide), fun t2 ht2 => ?_⟩
    have s5 := s4.trans (Same.new (o := .tup [.int (y.1 : Nat), .int (y.2.1 : Nat), .int (0 - y.2.2)]) ht2)
    refine ⟨(by show 2 ≤ sizeLine; decide), fun l3 hl3 => ?_⟩
    have n12 : t1 ≠ t2 := ne_of_none upd_same ht2
    have n13 : t1 ≠ l3 := ne_of_none (by rw [upd_ne n12, upd_same]) hl3
    have n23 : t2 ≠ l3 := ne_of_none upd_same hl3
    have s6 := s5.trans (Same.new (o := .lst [.ref t1, .ref t2]) hl3)
    refine ⟨n, l3, [t1, t2], lineTr y, rfl, SqL.of upd_same, .cons (SqT.of (by rw [upd_ne n13, upd_ne n12, upd_same])) (.cons (SqT.of (by rw [upd_ne n23, upd_same])) .nil), by omega, fun z hz => ?_, fun H7 d7 xs s7 hd7 e7 l7 g7 => ?_⟩
    · have hz : z ∈ [(y.2.1, y.1, (1 : Int)), (y.1, y.2.1, 0 - y.2.2)] := hz
      rcases List.mem_cons.mp hz with q | q
      · rw [q]; exact ⟨y2, by show y.1 < n; omega⟩
      · rw [List.mem_singleton.mp q]; exact ⟨by show y.1 < n; omega, y2⟩
    · exact kC _ _ rfl (s6.trans s7) ⟨d7, lineTr y, by rw [List.getElem?_map, hy]; rfl, rfl, ne_of_none' (s6 _ _ hacc) hd7, xs, e7, l7, g7⟩
  · rw [List.filter_eq_self.mpr fun _ _ => rfl] at r3
    have s13 := s12.trans s3
    obtain ⟨rs, rfl, r4⟩ := refs_of (S := fun i r => ∃ tl, (trs.map lineTr)[i]? = some tl ∧ r ≠ DD ∧ RowL K H3 n r tl) (fun i y ⟨r, tl, e0, e, ne, k⟩ => ⟨r, e, tl, e0, ne, k⟩) r3
    have lrs : rs.length = trs.length := by rw [← paired_len r4, List.length_range, List.length_map, lts]
    have pr : Paired (fun r tl => RowL K H3 n r tl) rs (trs.map lineTr) := paired_mk (by rw [List.length_map, lrs]) fun i r tl h1 h2 => by
      have hi : i < (ts.map V.ref).length := by
        have := (List.getElem?_eq_some_iff.mp h1).1
        rw [List.length_map]
        omega
      obtain ⟨tl', e0, _, k⟩ := paired_idx r4 (a := i) (by rw [List.getElem?_range hi]) h1
      rw [h2] at e0
      rw [Option.some.inj e0]
      exact k
    refine ⟨_, rfl, _, rfl, oa, rfl, ⟨_, s13.seq ho⟩, lc_walk (wk_list (K := K) (a := oa) (xs := ns.map fun x => V.int (x : Nat))) (fun _ => true) (fun D i y H => ∃ r tl, (ns.map fun x => [(x, x, (1 : Int))])[i]? = some tl ∧ y = V.ref r ∧ r ≠ D ∧ RowL K H n r tl) (fun D i y H1 H2 b ⟨r, tl, e0, e1, ne, k⟩ => ⟨r, tl, e0, e1, ne, k.but b ne⟩) (by rw [List.length_map]; omega) (s13.seq ho)
      (fun D5 i x H' C N hi hxi s4 hD5 ac kC kN => ?_) fun D5 H5 ys s5 hD5 e5 r5 => ?_⟩
    · obtain ⟨acc, hacc⟩ := ac
      obtain ⟨y, hy, rfl⟩ : ∃ y, ns[i]? = some y ∧ x = .int (y : Nat) := by
        have h : (ns.map fun x => V.int (x : Nat))[i]? = some x := hxi
        rw [List.getElem?_map] at h
        cases e : ns[i]? with
        | none => rw [e] at h; cases h
        | some y => rw [e] at h; exact ⟨y, rfl, (Option.some.inj h).symm⟩
      have yn := W.no y (List.mem_of_getElem? hy)
      refine ⟨rfl, _, rfl, _, rfl, _, rfl, (by show 3 ≤ sizeLine; decide), fun t1 ht1 => ⟨(by show 1 ≤ sizeLine; decide), fun l3 hl3 => ?_⟩⟩
      have n13 : t1 ≠ l3 := ne_of_none upd_same hl3
      have s6 := (Same.new (o := .tup [.int (y : Nat), .int (y : Nat), .int 1]) ht1).trans (Same.new (o := .lst [.ref t1]) hl3)
      refine ⟨n, l3, [t1], [(y, y, 1)], rfl, SqL.of upd_same, .cons (SqT.of (by rw [upd_ne n13, upd_same])) .nil, by omega, fun z hz => ?_, fun H7 d7 xs s7 hd7 e7 l7 g7 => ?_⟩
      · rw [List.mem_singleton.mp hz]
        exact ⟨yn, yn⟩
      · exact kC _ _ rfl (s6.trans s7) ⟨d7, [(y, y, 1)], by rw [List.getElem?_map, hy]; rfl, rfl, ne_of_none' (s6 _ _ hacc) hd7, xs, e7, l7, g7⟩
    · rw [List.filter_eq_self.mpr fun _ _ => rfl] at r5
      obtain ⟨qs, rfl, r6⟩ := refs_of (S := fun i r => ∃ tl, (ns.map fun x => [(x, x, (1 : Int))])[i]? = some tl ∧ r ≠ D5 ∧ RowL K H5 n r tl) (fun i y ⟨r, tl, e0, e, ne, k⟩ => ⟨r, e, tl, e0, ne, k⟩) r5
      have lqs : qs.length = ns.length := by rw [← paired_len r6, List.length_range, List.length_map]
      have pq : Paired (fun r tl => RowL K H5 n r tl) qs (ns.map fun x => [(x, x, (1 : Int))]) := paired_mk (by rw [List.length_map, lqs]) fun i r tl h1 h2 => by
        have hi : i < (ns.map fun x => V.int (x : Nat)).length := by
          have := (List.getElem?_eq_some_iff.mp h1).1
          rw [List.length_map]
          omega
        obtain ⟨tl', e0, _, k⟩ := paired_idx r6 (a := i) (by rw [List.getElem?_range hi]) h1
        rw [h2] at e0
        rw [Option.some.inj e0]
        exact k
      have e35 := s5 _ _ e3
      refine ⟨DD, D5, _, _, rfl, rfl, e35, e5, by rw [List.length_map, List.length_map]; omega, fun d6 hd6 => ?_⟩
      have s6 := Same.new (o := .lst (rs.map V.ref ++ qs.map V.ref)) hd6
      have ne6 : ∀ {r tl}, RowL K H5 n r tl → r ≠ d6 := fun {r tl} ⟨xs, e, _⟩ => ne_of_none e hd6
      refine q _ d6 (rs ++ qs) ((s13.trans s5).trans s6) ((s13.trans s5).free hd6) (by rw [upd_same, List.map_append]) ?_
      exact paired_cat (paired_imp pr fun r tl k => ⟨(k.mono s5).mono s6, ne6 (k.mono s5)⟩) (paired_imp pq fun r tl k => ⟨k.mono s6, ne6 k⟩)
end
end Kz
end
section
set_option Elab.async false
set_option linter.all false
set_option maxRecDepth 100000
set_option maxHeartbeats 4000000
/-! tuples of numbers in lists of such -/
namespace Kz
open PySem PySem.Spec PyProof.Rows L2
theorem u65 {k : Nat} {A : Around} (hr : Room k A) : A.units + 65 < cLine := by
  have := hr.un
  omega
abbrev dTups (ls : List (List Int)) : List PyData := ls.map fun k => PyData.tuple (dInts k)
/-- a list of tuples of numbers -/
def TupsAt (K : PySem.W.Frag) (H : Hp) (a : Addr) (ls : List (List Int)) : Prop := ∃ ks : List (Addr × List Int), SqL K H a (ks.map fun p => V.ref p.1) ∧ (∀ p ∈ ks, SqT K H p.1 (p.2.map V.int)) ∧ ks.map (·.2) = ls
theorem TupsAt.mono {K : PySem.W.Frag} {H H' : Hp} {a : Addr} {ls : List (List Int)} (s : Same H H') (h : TupsAt K H a ls) : TupsAt K H' a ls := by
  obtain ⟨ks, h1, h2, h3⟩ := h
  exact ⟨ks, s.seq h1, fun p hp => s.seqT (h2 p hp), h3⟩
theorem dp_tups {K : PySem.W.Frag} {H : Hp} : ∀ ks : List (Addr × List Int), (∀ p ∈ ks, SqT K H p.1 (p.2.map V.int)) → DpAll K H (ks.map fun p => V.ref p.1) (dTups (ks.map (·.2)))
  | [], _ => .nil
  | p :: ks, h => .cons (dp_tupI (h p List.mem_cons_self)) (dp_tups ks fun q hq => h q (List.mem_cons_of_mem _ hq))
theorem lay_tups : ∀ ls : List (List Int), PyData.canLayAll0 (dTups ls) = true
  | [] => rfl
  | k :: ls => by
    show (PyData.canLayAll0 (dInts k) && PyData.canLayAll0 (dTups ls)) = true
    rw [lay_ints, lay_tups ls]
    rfl
theorem depth_tups : ∀ ls : List (List Int), PyData.depthAll (dTups ls) ≤ 1
  | [] => Nat.zero_le _
  | k :: ls => by
    show max (PyData.depthAll (dInts k) + 1) (PyData.depthAll (dTups ls)) ≤ 1
    have := depth_tups ls
    rw [depth_ints]
    omega
theorem sh_tups (ls : List (List Int)) : SeqAt.shaped (.list (dTups ls)) = true := by
  show (PyData.canLayAll0 (dTups ls) && decide (PyData.depthAll (dTups ls) + 1 ≤ 64)) = true
  have := depth_tups ls
  rw [lay_tups, decide_eq_true (by omega)]
  rfl
theorem any_tups (k : List Int) : ∀ ls : List (List Int), ((dTups ls).any fun z => PyData.eqv z (.tuple (dInts k))) = decide (k ∈ ls)
  | [] => rfl
  | m :: ls => by
    show (PyData.eqvAll (dInts m) (dInts k) || (dTups ls).any fun z => PyData.eqv z (.tuple (dInts k))) = _
    rw [any_tups k ls, eqv_ints]
    by_cases e : m = k
    · rw [decide_eq_true e, e, decide_eq_true List.mem_cons_self]
      rfl
    · rw [decide_eq_false e, Bool.false_or]
      by_cases h : k ∈ ls
      · rw [decide_eq_true h, decide_eq_true (List.mem_cons_of_mem _ h)]
      · rw [decide_eq_false h, decide_eq_false fun z => by
          rcases List.mem_cons.mp z with q | q
          · exact e q.symm
          · exact h q]
theorem in_tups {K : PySem.W.Frag} {H : Hp} {a t : Addr} {k : List Int} {ls : List (List Int)} {Q : VK} (ht : SqT K H t (k.map V.int)) (hl : TupsAt K H a ls) (q : Q (.bl (decide (k ∈ ls))) H) : rInD K (.ref t) (.ref a) H Q := by
  obtain ⟨ks, h1, h2, rfl⟩ := hl
  refine ⟨_, _, dp_tupI ht, .lst h1 (dp_tups ks h2), sh_tupI _, sh_tups _, ?_⟩
  rw [any_tups]
  exact q
theorem notIn_tups {K : PySem.W.Frag} {H : Hp} {a t : Addr} {k : List Int} {ls : List (List Int)} {Q : VK} (ht : SqT K H t (k.map V.int)) (hl : TupsAt K H a ls) (q : Q (.bl (!decide (k ∈ ls))) H) : rNotInD K (.ref t) (.ref a) H Q := by
  obtain ⟨ks, h1, h2, rfl⟩ := hl
  refine ⟨_, _, dp_tupI ht, .lst h1 (dp_tups ks h2), sh_tupI _, sh_tups _, ?_⟩
  rw [any_tups]
  exact q
end Kz
end
section
set_option Elab.async false
set_option linter.all false
set_option maxRecDepth 100000
set_option maxHeartbeats 4000000
/-! the webs' books -/
namespace Kz
open PySem PySem.Spec PyProof.Rows L2 KzM
theorem two_pair {n : Nat} {p : Int} : ∀ {tl : List Trip}, tl.length ≤ 2 → Two (fun k => pairF n tl k % p)
  | [], _ => ⟨0, 0, fun k hk => absurd (Int.zero_emod p) hk⟩
  | [(x, y, z)], _ => ⟨x * n + y, x * n + y, fun k hk => by
    by_cases e : x * n + y = k
    · exact .inl e.symm
    · refine absurd ?_ hk
      show ((if x * n + y = k then z else 0) + 0) % p = 0
      rw [if_neg e]
      exact Int.zero_emod p⟩
  | [(x, y, z), (x', y', z')], _ => ⟨x * n + y, x' * n + y', fun k hk => by
    by_cases e : x * n + y = k
    · exact .inl e.symm
    · by_cases e2 : x' * n + y' = k
      · exact .inr e2.symm
      · refine absurd ?_ hk
        show ((if x * n + y = k then z else 0) + ((if x' * n + y' = k then z' else 0) + 0)) % p = 0
        rw [if_neg e, if_neg e2]
        exact Int.zero_emod p⟩
  | _ :: _ :: _ :: _, h => by simp at h
/-- a book of the rows that are told -/
def BookOf (K : PySem.W.Frag) (C : Addr) (H : Hp) (b : Addr) (p : Int) (n : Nat) (tls : List (List Trip)) : Prop := ∃ fs, BookAt K C H b p n fs ∧ ∀ u, (∀ f ∈ fs, Van p (n * n) u f) ↔ ∀ tl ∈ tls, Van p (n * n) u (pairF n tl)
def spBook (K : PySem.W.Frag) (C : Addr) (tr : Nat → List Trip → List Nat → List (List Trip)) : Sp := fun vs H Q _ => ∃ p n trs ns, WebArgs K H vs p n trs ns ∧ ∀ H' b, Same H H' → BookOf K C H' b p n (tr n trs ns) → Q (.ref b) H'
/-- Rules(prime, letters, rows), once the rows stand -/
theorem make_read {K : PySem.W.Frag} {C : Addr} {H : Hp} {Q : VK} {E : XK} {p : Int} {n : Nat} {d : Addr} {rs : List Addr} {tls : List (List Trip)} (hd : H d = some (.lst (rs.map V.ref))) (pr : Paired (fun r tl => RowL K H n r tl) rs tls) (hp : p ∈ fieldsL) (h1 : 1 ≤ n) (h5 : n ≤ 5) (hl : rs.length < 10000) (h2 : ∀ tl ∈ tls, tl.length ≤ 2)
    (q : ∀ H' b, Same H H' → BookOf K C H' b p n tls → Q (.ref b) H') : ∀ x dx, H x = none → H dx = none → dx ≠ x → spInit K C [.ref x, .int p, .int (n : Nat), .ref d] (upd (upd H dx (.own x)) x (.ins C dx [])) (fun v H2 => v = .non ∧ Q (.ref x) H2) E := by
  intro x dx nx ndx nex
  have s0 : Same H (upd (upd H dx (.own x)) x (.ins C dx [])) := fun b o e => by
    rw [upd_ne (ne_of_none e nx), upd_ne (ne_of_none e ndx)]
    exact e
  obtain ⟨xss, e1, e2⟩ : ∃ xss : List (List Int), Paired (fun r xs => SqX K (upd (upd H dx (.own x)) x (.ins C dx [])) r (xs.map V.int)) rs xss ∧ Paired (fun xs tl => xs.length = n * n ∧ ∀ k, xs.getD k 0 = pairF n tl k) xss tls := by
    clear hd hl h2 q
    induction pr with
    | nil => exact ⟨[], .nil, .nil⟩
    | cons r t ih =>
      obtain ⟨xs, e, l, g⟩ := r
      obtain ⟨xss, h1, h2⟩ := ih
      exact ⟨xs :: xss, .cons (.inl (SqL.of (s0 _ _ e))) h1, .cons ⟨l, g⟩ h2⟩
  have fe : ∀ {xs : List Int} {tl : List Trip}, (∀ k, xs.getD k 0 = pairF n tl k) → (fun k => xs.getD k 0) = pairF n tl := fun g => funext g
  refine ⟨x, dx, p, n, d, rs, xss, rfl, upd_same, SqL.of (s0 _ _ hd), e1, hp, h1, h5, hl, fun xs hx => ?_, fun H' fs b bk ann => ⟨rfl, q H' x (fun c o e => b _ _ (ne_of_none e nx) (s0 _ _ e)) ⟨fs, bk, fun u => (ann u).trans ?_⟩⟩⟩
  · obtain ⟨tl, m, l, g⟩ := paired_get2 e2 hx
    refine ⟨l, ?_⟩
    have : (fun k => xs.getD k 0 % p) = fun k => pairF n tl k % p := funext fun k => by rw [g]
    rw [this]
    exact two_pair (h2 tl m)
  · constructor
    · intro h tl m
      obtain ⟨xs, mx, l, g⟩ := paired_get e2 m
      rw [← fe g]
      exact h xs mx
    · intro h xs mx
      obtain ⟨tl, m, l, g⟩ := paired_get2 e2 mx
      rw [fe g]
      exact h tl m
theorem webTr_len {trs : List Trip} {ns : List Nat} {tl : List Trip} (h : tl ∈ webTr trs ns) : tl.length ≤ 2 := by
  rcases List.mem_append.mp h with m | m
  · obtain ⟨y, _, rfl⟩ := List.mem_map.mp m
    exact Nat.le_refl 2
  · obtain ⟨y, _, rfl⟩ := List.mem_map.mp m
    exact Nat.le_succ 1
def shutTo (n last first : Nat) (trs : List Trip) : List (List Trip) := ((List.range first).filter fun x => decide ((x, last) ∉ trs.map fun t => (t.1, t.2.1))).flatMap fun x => [[(x, last, 1)], [(last, x, 1)]]
def shutRows (n m : Nat) (trs : List Trip) : List (List Trip) := (List.range m).flatMap fun last => shutTo n last last trs
def shutTr (n : Nat) (trs : List Trip) (ns : List Nat) : List (List Trip) := webTr trs ns ++ shutRows n n trs
theorem TupsAt.but {K : PySem.W.Frag} {H H' : Hp} {d a : Addr} {ls : List (List Int)} {xs : List V} (b : But d H H') (hd : H d = some (.lst xs)) (na : a ≠ d) (h : TupsAt K H a ls) : TupsAt K H' a ls := by
  obtain ⟨ks, h1, h2, h3⟩ := h
  refine ⟨ks, ?_, fun p hp => ?_, h3⟩
  · rcases h1 with (h | ⟨o, h⟩) | h
    · exact .inl (.inl (b _ _ na h))
    · exact .inl (.inr ⟨o, b _ _ na h⟩)
    · exact .inr h
  · rcases h2 p hp with (h | ⟨o, h⟩) | h
    · exact .inl (.inl (b _ _ (ne_of h hd (fun z => nomatch z)) h))
    · exact .inl (.inr ⟨o, b _ _ (ne_of h hd (fun z => nomatch z)) h⟩)
    · exact .inr h
theorem row_put {K : PySem.W.Frag} {H H' : Hp} {n : Nat} {d r : Addr} {rs : List Addr} {tls : List (List Trip)} {tl : List Trip} (hd : H d = some (.lst (rs.map V.ref))) (pr : Paired (fun r tl => RowL K H n r tl ∧ r ≠ d) rs tls) (s : Same H H') (k : RowL K H' n r tl) (hr : H r = none) :
    (upd H' d (.lst ((rs.map V.ref) ++ [V.ref r]))) d = some (.lst ((rs ++ [r]).map V.ref)) ∧ Paired (fun r' tl' => RowL K (upd H' d (.lst ((rs.map V.ref) ++ [V.ref r]))) n r' tl' ∧ r' ≠ d) (rs ++ [r]) (tls ++ [tl]) := by
  have ne : r ≠ d := ne_of_none' hd hr
  have u : ∀ {r' tl'}, r' ≠ d → RowL K H' n r' tl' → RowL K (upd H' d (.lst ((rs.map V.ref) ++ [V.ref r]))) n r' tl' := fun {r' tl'} q ⟨xs, e, l, g⟩ => ⟨xs, by rw [upd_ne q]; exact e, l, g⟩
  exact ⟨by rw [upd_same, List.map_append]; rfl, paired_app (paired_imp pr fun _ _ ⟨x, y⟩ => ⟨u y (x.mono s), y⟩) ⟨u ne k, ne⟩⟩
theorem shutTo_succ (n last first : Nat) (trs : List Trip) : shutTo n last (first + 1) trs = shutTo n last first trs ++ if (first, last) ∈ trs.map (fun t => (t.1, t.2.1)) then [] else [[(first, last, 1)], [(last, first, 1)]] := by
  unfold shutTo
  rw [List.range_succ, List.filter_append, List.flatMap_append]
  congr 1
  by_cases h : (first, last) ∈ trs.map fun t => (t.1, t.2.1)
  · rw [if_pos h, List.filter_cons, decide_eq_false fun z => z h]
    rfl
  · rw [if_neg h, List.filter_cons, decide_eq_true h]
    rfl
theorem pair_mem {trs : List Trip} {x y : Nat} : [(x : Int), (y : Int)] ∈ (trs.map tripD).map pairD ↔ (x, y) ∈ trs.map fun t => (t.1, t.2.1) := by
  rw [List.map_map]
  constructor
  · intro h
    obtain ⟨t, m, e⟩ := List.mem_map.mp h
    have e : [((t.1 : Nat) : Int), ((t.2.1 : Nat) : Int)] = [(x : Int), (y : Int)] := e
    have q1 := Int.ofNat.inj (List.cons.inj e).1
    have q2 := Int.ofNat.inj (List.cons.inj (List.cons.inj e).2).1
    exact List.mem_map.mpr ⟨t, m, Prod.ext q1 q2⟩
  · intro h
    obtain ⟨t, m, e⟩ := List.mem_map.mp h
    refine List.mem_map.mpr ⟨t, m, ?_⟩
    obtain ⟨rfl, rfl⟩ := Prod.mk.inj e
    rfl
section
variable {w : World} {K : PySem.W.Frag} {mg : Str → Option Value} {base : Heap}
abbrev N_web_book : List Str := ["prime", "letters", "lines", "nothings"]
theorem sc_web_book : FnScope N_web_book ["prime", "letters", "lines", "nothings"] (defScope sd_web_book) := ⟨rfl, rfl, rfl, by decide +kernel, rfl, by decide +kernel, by decide +kernel⟩
theorem f_web_book {C fI : Addr} (D : DefAt K mg "web_book" sd_web_book) (T : Txt K mg) (U : RuT K mg C fI) (f_init : MetS PG w K mg base CX0 5 fI ["self", "prime", "letters", "rows"] (spInit K C)) (f_web_rows : FnS PG w K mg base CX0 6 "web_rows" ["prime", "letters", "lines", "nothings"] (spWebRows K)) :
    FnS PG w K mg base CX0 7 "web_book" ["prime", "letters", "lines", "nothings"] (spBook K C fun _ => webTr) :=
  mkFn D sc_web_book (fun _ _ _ _ _ _ us hl => match us, hl with | [_, _, _, _], _ => rfl) (fun vs H Q E ⟨_, _, _, _, ⟨_, _, e, _⟩, _⟩ => by rw [e]; rfl) fun cdv A outer s H vs Q E hr ⟨p, n, trs, ns, ⟨la, oa, e, hl, ho, hp, W, hw⟩, q⟩ => by
  subst e
  refine ⟨_, (pss_one (ps_ret (pe_make U.mkr f_init.ok hr rfl U.g f_init.b .nil pass0 (pa_cons (pv 0) (pa_cons (pv 1) (pa_cons (pe_call f_web_rows.ok (hr.mono (by decide)) rfl f_web_rows.g f_web_rows.kp f_web_rows.b .nil pass0 (pa_cons (pv 0) (pa_cons (pv 1) (pa_cons (pv 2) (pa_cons (pv 3) pa_nil))))) pa_nil)))))), ?_⟩
  refine ⟨_, rfl, _, rfl, _, rfl, _, rfl, _, rfl, _, rfl, p, n, trs, ns, ⟨la, oa, rfl, hl, ho, hp, W, hw⟩, fun H1 d rs s1 hd e1 pr => ?_⟩
  have lr : rs.length < 10000 := by
    rw [paired_len pr]
    show (webTr trs ns).length < 10000
    unfold webTr
    rw [List.length_append, List.length_map, List.length_map]
    have := W.few
    have := ns_len W
    have := W.n5
    omega
  exact make_read e1 (paired_imp pr fun _ _ r => r.1) hp W.n1 W.n5 lr (fun tl m => webTr_len m) fun H' b s2 bk => q H' b (s1.trans s2) bk
abbrev N_shut_web : List Str := ["prime", "letters", "lines", "nothings", "rows", "pairs", "last", "first", "line"]
theorem sc_shut_web : FnScope N_shut_web ["prime", "letters", "lines", "nothings"] (defScope sd_shut_web) := ⟨rfl, rfl, rfl, by decide +kernel, rfl, by decide +kernel, by decide +kernel⟩
theorem f_shut_web {C fI : Addr} (D : DefAt K mg "shut_web" sd_shut_web) (T : Txt K mg) (U : RuT K mg C fI) (f_init : MetS PG w K mg base CX0 5 fI ["self", "prime", "letters", "rows"] (spInit K C)) (f_web_rows : FnS PG w K mg base CX0 6 "web_rows" ["prime", "letters", "lines", "nothings"] (spWebRows K)) (f_pair_row : FnS PG w K mg base CX0 1 "pair_row" ["letters", "pairs"] (spPairRow K)) :
    FnS PG w K mg base CX0 7 "shut_web" ["prime", "letters", "lines", "nothings"] (spBook K C shutTr) :=
  mkFn D sc_shut_web (fun _ _ _ _ _ _ us hl => match us, hl with | [_, _, _, _], _ => rfl) (fun vs H Q E ⟨_, _, _, _, ⟨_, _, e, _⟩, _⟩ => by rw [e]; rfl) fun cdv A outer s H vs Q E hr ⟨p, n, trs, ns, ⟨la, oa, e, ⟨ts, hl, ht⟩, ho, hp, W, hw⟩, q⟩ => by
  subst e
  refine ⟨_, (pss_cons (ps_set (i := 4) sc_shut_web.nd rfl (.inl rfl) (pe_call f_web_rows.ok (hr.mono (by decide)) rfl f_web_rows.g f_web_rows.kp f_web_rows.b .nil pass0 (pa_cons (pv 0) (pa_cons (pv 1) (pa_cons (pv 2) (pa_cons (pv 3) pa_nil))))))
      (pss_cons (ps_setLc (i := 5) (own := [("line", 8)]) (g := (gName 8)) rfl sc_shut_web.nd rfl rfl (sw_true rfl rfl rfl (by decide +kernel)) (pi_seq (pv 2)) (blkOk_by (N := N_shut_web) (sc := defScope sd_shut_web) (by decide +kernel)) (fun _ _ _ _ _ => (pg_name (i := 8) sc_shut_web.nd rfl (.inl rfl))) (fun _ _ _ _ _ => pts_nil) (fun _ _ _ _ _ => (pe_tup (pa_cons (pe_ix (ix_seqX : IxR _ (ixSeq K)) (pv 8) pe_int (fun _ _ => rfl)) (pa_cons (pe_ix (ix_seqX : IxR _ (ixSeq K)) (pv 8) pe_int (fun _ _ => rfl)) pa_nil)))))
      (pss_cons (ps_for (passes_of rfl) rfl (pi_range1 rfl T.range_ (pa_cons (pv 1) pa_nil)) (pg_name (i := 6) sc_shut_web.nd rfl (.inl rfl)) (pss_one (ps_for (passes_of rfl) rfl (pi_range1 rfl T.range_ (pa_cons (pv 6) pa_nil)) (pg_name (i := 7) sc_shut_web.nd rfl (.inl rfl)) (pss_one (ps_if (pt_cmpR (op_notInD (u65 hr)) (pe_tup (pa_cons (pv 7) (pa_cons (pv 6) pa_nil))) (pv 5) rfl) (pss_cons (ps_expr (pe_bm PySem.F.plainAttrs_list PySem.F.slot_list_append PySem.F.type_list_append mt_append (pv 4) (pa_cons (pe_call f_pair_row.ok (hr.mono (by decide)) rfl f_pair_row.g f_pair_row.kp f_pair_row.b .nil pass0 (pa_cons (pv 1) (pa_cons (pe_lst (pa_cons (pe_tup (pa_cons (pv 7) (pa_cons (pv 6) (pa_cons pe_int pa_nil)))) pa_nil)) pa_nil))) pa_nil)))
      (pss_one (ps_expr (pe_bm PySem.F.plainAttrs_list PySem.F.slot_list_append PySem.F.type_list_append mt_append (pv 4) (pa_cons (pe_call f_pair_row.ok (hr.mono (by decide)) rfl f_pair_row.g f_pair_row.kp f_pair_row.b .nil pass0 (pa_cons (pv 1) (pa_cons (pe_lst (pa_cons (pe_tup (pa_cons (pv 6) (pa_cons (pv 7) (pa_cons pe_int pa_nil)))) pa_nil)) pa_nil))) pa_nil))))) pss_nil)))))
      (pss_one (ps_ret (pe_make U.mkr f_init.ok hr rfl U.g f_init.b .nil pass0 (pa_cons (pv 0) (pa_cons (pv 1) (pa_cons (pv 4) pa_nil))))))))), ?_⟩
  have n5 := W.n5
  have big : 10000 < sizeLine := by decide
  refine ⟨_, rfl, _, rfl, _, rfl, _, rfl, p, n, trs, ns, ⟨la, oa, rfl, ⟨ts, hl, ht⟩, ho, hp, W, hw⟩, fun H1 d rs1 s1 hd e1 pr1 => ?_⟩
  have lr1 : rs1.length ≤ 20 := by
    rw [paired_len pr1]
    unfold webTr
    rw [List.length_append, List.length_map, List.length_map]
    have := W.few
    have := ns_len W
    omega
  have wl := web_linesD W
  have al : ∀ x ∈ trs.map tripD, lineD n x = true := List.all_eq_true.mp (Bool.and_eq_true_iff.mp (show ((trs.map tripD).all (lineD n) && decide (((trs.map tripD).map pairD).Nodup)) = true from wl)).1
  have ht1 := paired_imp ht fun t x (r : TripT K H t x) => (show LineX K H1 t x from .inr (s1.seqT r))
  dsimp only
  refine seq1 (asg1 (pairs_read (K := K) (j := 8) (n := n) (fun R h => ⟨_, rfl, h⟩) (.inl (s1.seq hl)) (pd_lines ht1) (by rw [List.length_map, paired_len ht]; have := W.few; omega) al (fun _ => rfl) (fun _ => rfl) fun dp H2 ks s2 hdp e2 ek ekp => ?_))
  have ndp : dp ≠ d := ne_of_none' e1 hdp
  have tp : TupsAt K H2 dp ((trs.map tripD).map pairD) := ⟨ks, SqL.of e2, fun p hp => (ekp p hp).1, ek⟩
  have e12 := s2 _ _ e1
  have s02 := s1.trans s2
  have pr2 := paired_imp pr1 fun r tl (k : RowL K H1 n r tl ∧ r ≠ d) => (⟨k.1.mono s2, k.2⟩ : RowL K H2 n r tl ∧ r ≠ d)
  refine ⟨_, rfl, (n : Nat), rfl, by omega, by omega, ?_⟩
  refine for_walk (wk_range (n := n)) (fun i σ H' => ∃ (rs : List Addr) (x6 x7 x8 : Option V), σ = [some (.int p), some (.int (n : Nat)), some (.ref la), some (.ref oa), some (.ref d), some (.ref dp), x6, x7, x8] ∧ But d H2 H' ∧ H' d = some (.lst (rs.map V.ref)) ∧ Paired (fun r tl => RowL K H' n r tl ∧ r ≠ d) rs (webTr trs ns ++ shutRows n i trs) ∧ rs.length ≤ 20 + i * 10)
    ⟨rs1, _, _, _, rfl, fun _ _ _ e => e, e12, by show Paired _ rs1 (_ ++ []); rw [List.append_nil]; exact pr2, by omega⟩ (fun _ _ _ _ _ => True.intro) (fun i x σ H3 H4 hi ⟨rs, x6, x7, x8, eσ, b3, e3, pr3, l3⟩ s4 it => ?_) fun σ H3 ⟨rs, x6, x7, x8, eσ, b3, e3, pr3, l3⟩ => ?_
  · subst eσ it
    have z0 : (0 : Int) + (i : Int) = (i : Int) := by omega
    rw [z0]
    refine ⟨_, rfl, (i : Nat), rfl, by omega, by omega, ?_⟩
    refine for_walk (wk_range (n := i)) (fun j σ H' => ∃ (rs : List Addr) (x7 x8 : Option V), σ = [some (.int p), some (.int (n : Nat)), some (.ref la), some (.ref oa), some (.ref d), some (.ref dp), some (.int (i : Nat)), x7, x8] ∧ But d H2 H' ∧ H' d = some (.lst (rs.map V.ref)) ∧ Paired (fun r tl => RowL K H' n r tl ∧ r ≠ d) rs ((webTr trs ns ++ shutRows n i trs) ++ shutTo n i j trs) ∧ rs.length ≤ 20 + i * 10 + j * 2)
      ⟨rs, _, _, rfl, fun b o nb e => s4 _ _ (b3 _ _ nb e), s4 _ _ e3, by show Paired _ rs (_ ++ []); rw [List.append_nil]; exact paired_imp pr3 fun _ _ ⟨x, y⟩ => ⟨x.mono s4, y⟩, by omega⟩ (fun _ _ _ _ _ => True.intro) (fun j x σ H5 H6 hj ⟨rs, x7, x8, eσ, b5, e5, pr5, l5⟩ s6 it => ?_) fun σ H5 ⟨rs, x7, x8, eσ, b5, e5, pr5, l5⟩ => ?_
    · subst eσ it
      have z1 : (0 : Int) + (j : Int) = (j : Int) := by omega
      rw [z1]
      have b6 : But d H2 H6 := fun b o nb e => s6 _ _ (b5 _ _ nb e)
      have e6 := s6 _ _ e5
      have pr6 := paired_imp pr5 fun r tl (k : RowL K H5 n r tl ∧ r ≠ d) => (⟨k.1.mono s6, k.2⟩ : RowL K H6 n r tl ∧ r ≠ d)
      have tp6 := tp.but b6 e12 ndp
      refine ⟨_, rfl, _, rfl, (by show 2 ≤ sizeLine; decide), fun t ht => ?_⟩
      have s7 : Same H6 (upd H6 t (.tup [.int (j : Nat), .int (i : Nat)])) := Same.new ht
      refine ⟨_, rfl, notIn_tups (k := [(j : Int), (i : Int)]) (SqT.of upd_same) (tp6.mono s7) ⟨_, rfl, ?_⟩⟩
      have b7 : But d H2 (upd H6 t (.tup [.int (j : Nat), .int (i : Nat)])) := fun b o nb e => s7 _ _ (b6 _ _ nb e)
      have e7 := s7 _ _ e6
      have pr7 := paired_imp pr6 fun r tl (k : RowL K H6 n r tl ∧ r ≠ d) => (⟨k.1.mono s7, k.2⟩ : RowL K (upd H6 t (.tup [.int (j : Nat), .int (i : Nat)])) n r tl ∧ r ≠ d)
      generalize upd H6 t (.tup [.int (j : Nat), .int (i : Nat)]) = H7 at s7 b7 e7 pr7 ⊢
      by_cases m : (j, i) ∈ trs.map fun t => (t.1, t.2.1)
      · rw [decide_eq_true (pair_mem.mpr m)]
        refine ⟨rs, _, _, rfl, b7, e7, ?_, by omega⟩
        rw [shutTo_succ, if_pos m, List.append_nil]
        exact pr7
      · rw [decide_eq_false fun z => m (pair_mem.mp z)]
        -- one row, then the other
        refine ⟨_, rfl, .inl ⟨rfl, _, SqL.of e7⟩, _, rfl, _, rfl, _, rfl, (by show 3 ≤ sizeLine; decide), fun t1 ht1 => ⟨(by show 1 ≤ sizeLine; decide), fun l1 hl1 => ?_⟩⟩
        have n11 : t1 ≠ l1 := ne_of_none upd_same hl1
        have s8 := (Same.new (o := .tup [.int (j : Nat), .int (i : Nat), .int 1]) ht1).trans (Same.new (o := .lst [.ref t1]) hl1)
        refine ⟨n, l1, [t1], [(j, i, 1)], rfl, SqL.of upd_same, .cons (SqT.of (by rw [upd_ne n11, upd_same])) .nil, by omega, fun z hz => by rw [List.mem_singleton.mp hz]; exact ⟨by show j < n; omega, by show i < n; omega⟩, fun H8 r1 xs1 s9 hr1 er1 lr1 gr1 => ?_⟩
        have s79 := s8.trans s9
        have e8 := s79 _ _ e7
        refine ⟨d, _, _, rfl, rfl, e8, by rw [List.length_map]; omega, ?_⟩
        obtain ⟨f1, f2⟩ := row_put (tl := [(j, i, 1)]) e7 pr7 s79 ⟨xs1, er1, lr1, gr1⟩ (s8.free hr1)
        have b8 : But d H2 (upd H8 d (.lst ((rs.map V.ref) ++ [V.ref r1]))) := fun b o nb e => by
          rw [upd_ne nb]
          exact s79 _ _ (b7 _ _ nb e)
        generalize upd H8 d (.lst ((rs.map V.ref) ++ [V.ref r1])) = H9 at f1 f2 b8 ⊢
        refine ⟨_, rfl, .inl ⟨rfl, _, SqL.of f1⟩, _, rfl, _, rfl, _, rfl, (by show 3 ≤ sizeLine; decide), fun t2 ht2 => ⟨(by show 1 ≤ sizeLine; decide), fun l2 hl2 => ?_⟩⟩
        have n22 : t2 ≠ l2 := ne_of_none upd_same hl2
        have s10 := (Same.new (o := .tup [.int (i : Nat), .int (j : Nat), .int 1]) ht2).trans (Same.new (o := .lst [.ref t2]) hl2)
        refine ⟨n, l2, [t2], [(i, j, 1)], rfl, SqL.of upd_same, .cons (SqT.of (by rw [upd_ne n22, upd_same])) .nil, by omega, fun z hz => by rw [List.mem_singleton.mp hz]; exact ⟨by show i < n; omega, by show j < n; omega⟩, fun H10 r2 xs2 s11 hr2 er2 lr2 gr2 => ?_⟩
        have s911 := s10.trans s11
        refine ⟨d, _, _, rfl, rfl, s911 _ _ f1, by rw [List.length_map, List.length_append, List.length_singleton]; omega, ?_⟩
        obtain ⟨g1, g2⟩ := row_put (tl := [(i, j, 1)]) f1 f2 s911 ⟨xs2, er2, lr2, gr2⟩ (s10.free hr2)
        refine ⟨(rs ++ [r1]) ++ [r2], _, _, rfl, fun b o nb e => ?_, g1, ?_, by rw [List.length_append, List.length_append, List.length_singleton, List.length_singleton]; omega⟩
        · rw [upd_ne nb]
          exact s911 _ _ (b8 _ _ nb e)
        · rw [shutTo_succ, if_neg m]
          have : (webTr trs ns ++ shutRows n i trs) ++ (shutTo n i j trs ++ [[(j, i, 1)], [(i, j, 1)]]) = (((webTr trs ns ++ shutRows n i trs) ++ shutTo n i j trs) ++ [[(j, i, 1)]]) ++ [[(i, j, 1)]] := by simp
          rw [this]
          exact g2
    · subst eσ
      refine ⟨rs, _, _, _, rfl, b5, e5, ?_, by omega⟩
      have : shutRows n (i + 1) trs = shutRows n i trs ++ shutTo n i i trs := by
        unfold shutRows
        rw [List.range_succ, List.flatMap_append]
        simp
      rw [this, ← List.append_assoc]
      exact pr5
  · subst eσ
    have s03 : Same H H3 := fun b o e => b3 _ _ (ne_of_none e hd) (s02 _ _ e)
    refine ⟨_, rfl, _, rfl, _, rfl, make_read e3 (paired_imp pr3 fun _ _ r => r.1) hp W.n1 W.n5 (by omega) (fun tl m => ?_) fun H' b s4 bk => q H' b (s03.trans s4) bk⟩
    rcases List.mem_append.mp m with m | m
    · exact webTr_len m
    · obtain ⟨last, _, m2⟩ := List.mem_flatMap.mp m
      obtain ⟨x, _, m3⟩ := List.mem_flatMap.mp m2
      rcases List.mem_cons.mp m3 with e | e
      · rw [e]; exact Nat.le_succ 1
      · rw [List.mem_singleton.mp e]; exact Nat.le_succ 1
end
end Kz
end
section
set_option Elab.async false
set_option linter.all false
set_option maxRecDepth 100000
set_option maxHeartbeats 4000000
/-! the webs' lots -/
namespace Kz
open PySem PySem.Spec PyProof.Rows L2 KzM
abbrev toI (l : List Nat) : List Int := l.map fun (x : Nat) => (x : Int)
def pairsOfT (trs : List Trip) : List (Nat × Nat) := trs.map fun t => (t.1, t.2.1)
def lotsTo (ps : List (Nat × Nat)) : Nat → List (List Nat)
  | 0 => [[]]
  | m + 1 => lotsTo ps m ++ ((lotsTo ps m).filter fun lot => lot.all fun o => decide ((o, m) ∈ ps)).map fun lot => lot ++ [m]
theorem perm_map_of {α β : Type} {f : α → β} : ∀ {ys zs : List β}, ys.Perm zs → ∀ {l : List α}, zs = l.map f → ∃ l' : List α, l'.Perm l ∧ ys = l'.map f := by
  intro ys zs h
  induction h with
  | nil =>
    intro l e
    have : l = [] := by
      cases l with
      | nil => rfl
      | cons a r => cases e
    exact ⟨[], by rw [this], rfl⟩
  | cons x _ ih =>
    intro l e
    cases l with
    | nil => cases e
    | cons a r =>
      obtain ⟨e1, e2⟩ := List.cons.inj e
      obtain ⟨l', p, e3⟩ := ih e2
      exact ⟨a :: l', p.cons a, by rw [e1, e3]; rfl⟩
  | swap x y r0 =>
    intro l e
    cases l with
    | nil => cases e
    | cons a r =>
      cases r with
      | nil => cases (List.cons.inj e).2
      | cons b r =>
        obtain ⟨e1, e2⟩ := List.cons.inj e
        obtain ⟨e3, e4⟩ := List.cons.inj e2
        exact ⟨b :: a :: r, List.Perm.swap a b r, by rw [e1, e3, e4]; rfl⟩
  | trans _ _ ih1 ih2 =>
    intro l e
    obtain ⟨l1, p1, e1⟩ := ih2 e
    obtain ⟨l2, p2, e2⟩ := ih1 e1
    exact ⟨l2, p2.trans p1, e2⟩
/-- a list of lots -/
def LotsAt (K : PySem.W.Frag) (H : Hp) (d : Addr) (ls : List (List Nat)) : Prop := TupsAt K H d (ls.map toI)
/-- the lines at la, a list or a tuple of lists or tuples -/
def LinesX (K : PySem.W.Frag) (H : Hp) (la : Addr) (trs : List Trip) : Prop := ∃ ts : List Addr, SqX K H la (ts.map V.ref) ∧ Paired (fun t x => LineX K H t x) ts trs
theorem LinesX.mono {K : PySem.W.Frag} {H H' : Hp} {la : Addr} {trs : List Trip} (s : Same H H') (h : LinesX K H la trs) : LinesX K H' la trs := by
  obtain ⟨ts, h1, h2⟩ := h
  exact ⟨ts, s.seqX h1, paired_imp h2 fun _ _ r => s.seqX r⟩
def spLots (K : PySem.W.Frag) : Sp := fun vs H Q _ => ∃ (n : Nat) (la : Addr) (trs : List Trip) (ns : List Nat), vs = [.int (n : Nat), .ref la] ∧ LinesX K H la trs ∧ WebOk n trs ns ∧ ∀ H' d ls, Same H H' → H d = none → LotsAt K H' d ls → ls.Perm (lotsTo (pairsOfT trs) n) → Q (.ref d) H'
theorem lotsTo_nil (ps : List (Nat × Nat)) : ∀ m, ∃ r, lotsTo ps m = [] :: r
  | 0 => ⟨[], rfl⟩
  | m + 1 => by
    obtain ⟨r, e⟩ := lotsTo_nil ps m
    refine ⟨r ++ ((lotsTo ps m).filter fun lot => lot.all fun o => decide ((o, m) ∈ ps)).map fun lot => lot ++ [m], ?_⟩
    show lotsTo ps m ++ _ = _
    rw [e]
    rfl
def keyAt (ks : List (Addr × List Int)) : V → List Int
  | .ref a => ((ks.find? fun p => p.1 == a).map (·.2)).getD []
  | _ => []
theorem keyAt_of {ks : List (Addr × List Int)} {p : Addr × List Int} (h : p ∈ ks) : ∃ p' ∈ ks, p'.1 = p.1 ∧ keyAt ks (.ref p.1) = p'.2 := by
  cases e : ks.find? fun z => z.1 == p.1 with
  | none =>
    have := List.find?_eq_none.mp e p h
    simp at this
  | some p' =>
    refine ⟨p', List.mem_of_find?_eq_some e, ?_, ?_⟩
    · have := List.find?_some e
      simpa using this
    · show ((ks.find? fun z => z.1 == p.1).map (·.2)).getD [] = _
      rw [e]
      rfl
theorem keyAt_head {p : Addr × List Int} {ks : List (Addr × List Int)} : keyAt (p :: ks) (.ref p.1) = p.2 := by
  show (((p :: ks).find? fun z => z.1 == p.1).map (·.2)).getD [] = _
  rw [List.find?_cons_of_pos (by simp)]
  rfl
theorem paired_ks {F : Nat → List Int} {H : Hp} {D : Addr} : ∀ {js : List Nat} {ys : List V}, Paired (fun j y => ∃ t, y = V.ref t ∧ t ≠ D ∧ H t = some (.tup ((F j).map V.int))) js ys → ∃ ks : List (Addr × List Int), ys = ks.map (fun p => V.ref p.1) ∧ (∀ p ∈ ks, H p.1 = some (.tup (p.2.map V.int))) ∧ ks.map (·.2) = js.map F
  | _, _, .nil => ⟨[], rfl, fun _ h => (by cases h), rfl⟩
  | j :: _, _, .cons ⟨t, e1, _, h⟩ r => by
    obtain ⟨ks, a, b, c⟩ := paired_ks r
    subst e1 a
    refine ⟨(t, F j) :: ks, rfl, fun p hp => ?_, by rw [List.map_cons, List.map_cons, c]⟩
    rcases List.mem_cons.mp hp with q | q
    · rw [q]; exact h
    · exact b p q
theorem range_filter_map {α β : Type} (l : List α) (d : α) (P : α → Bool) (G : α → β) : ((List.range l.length).filter fun j => P (l.getD j d)).map (fun j => G (l.getD j d)) = (l.filter P).map G := by
  have e : (List.range l.length).map (fun j => l.getD j d) = l := List.ext_getElem (by rw [List.length_map, List.length_range]) fun q h1 h2 => by
    rw [List.getElem_map, List.getElem_range, List.getD_eq_getElem?_getD, List.getElem?_eq_getElem h2]
    rfl
  have h : (l.filter P).map G = (((List.range l.length).map fun j => l.getD j d).filter P).map G := by rw [e]
  rw [h, List.filter_map, List.map_map]
  rfl
theorem lotsTo_len (ps : List (Nat × Nat)) : ∀ m, (lotsTo ps m).length ≤ 2 ^ m
  | 0 => Nat.le_refl 1
  | m + 1 => by
    show (lotsTo ps m ++ _).length ≤ _
    rw [List.length_append, List.length_map, Nat.pow_succ]
    have h1 := lotsTo_len ps m
    have h2 := List.length_filter_le (fun lot : List Nat => lot.all fun o => decide ((o, m) ∈ ps)) (lotsTo ps m)
    omega
theorem lotsTo_at (ps : List (Nat × Nat)) : ∀ m, ∀ lot ∈ lotsTo ps m, lot.length ≤ m ∧ ∀ x ∈ lot, x < m
  | 0, lot, h => by
    rw [List.mem_singleton.mp h]
    exact ⟨Nat.le_refl 0, by simp⟩
  | m + 1, lot, h => by
    rcases List.mem_append.mp h with h | h
    · obtain ⟨a, b⟩ := lotsTo_at ps m lot h
      exact ⟨by omega, fun x hx => by have := b x hx; omega⟩
    · obtain ⟨l0, m0, rfl⟩ := List.mem_map.mp h
      obtain ⟨a, b⟩ := lotsTo_at ps m l0 (List.mem_filter.mp m0).1
      refine ⟨by rw [List.length_append, List.length_singleton]; omega, fun x hx => ?_⟩
      rcases List.mem_append.mp hx with q | q
      · have := b x q; omega
      · rw [List.mem_singleton.mp q]; omega
abbrev sc_lot : Scope := { kind := .function, names := [(".0", .local), ("lot", .local), ("all", .globalImplicit), ("letter", .cell), ("pairs", .cell)], isGenerator := false, isCoroutine := false, more := [] }
section
variable {P : Program} {w : World} {K : PySem.W.Frag} {mg : Str → Option Value} {base : Heap}
abbrev N_lots_in : List Str := ["letters", "lines", "pairs", "found", "letter", "line", "lot", "other"]
theorem sc_lots_in : FnScope N_lots_in ["letters", "lines"] (defScope sd_lots_in) := ⟨rfl, rfl, rfl, by decide +kernel, rfl, by decide +kernel, by decide +kernel⟩
theorem f_lots_in (D : DefAt K mg "lots_in" sd_lots_in) (T : Txt K mg) : FnS P w K mg base CX0 1 "lots_in" ["letters", "lines"] (spLots K) :=
  mkFn D sc_lots_in (fun _ _ _ _ _ _ us hl => match us, hl with | [_, _], _ => rfl) (fun vs H Q E ⟨_, _, _, _, e, _⟩ => by rw [e]; rfl) fun cdv A outer s H vs Q E hr ⟨n, la, trs, ns, e, ⟨ts, hl, ht⟩, W, q⟩ => by
  subst e
  have lk : trs.length ≤ 10 := W.few
  refine ⟨_, (pss_cons (ps_set (i := 2) sc_lots_in.nd rfl (.inr rfl) (pe_lc (own := [("line", 5)]) (g := (gName 5)) rfl sc_lots_in.nd (pi_seq (pv 1)) (blkOk_by (N := N_lots_in) (sc := defScope sd_lots_in) (by decide +kernel)) (fun _ _ _ _ _ => (pg_name (i := 5) sc_lots_in.nd rfl (.inl rfl))) (fun _ _ _ _ _ => pts_nil) (fun _ _ _ _ _ => (pe_tup (pa_cons (pe_ix (ix_seqX : IxR _ (ixSeq K)) (pv 5) pe_int (fun _ _ => rfl)) (pa_cons (pe_ix (ix_seqX : IxR _ (ixSeq K)) (pv 5) pe_int (fun _ _ => rfl)) pa_nil))))))
      (pss_cons (ps_set (i := 3) sc_lots_in.nd rfl (.inl rfl) (pe_lst (pa_cons (pe_tup pa_nil) pa_nil)))
      (pss_cons (ps_for (passes_of rfl) rfl (pi_range1 rfl T.range_ (pa_cons (pv 0) pa_nil)) (pg_name (i := 4) sc_lots_in.nd rfl (.inr rfl)) (pss_one (ps_set (i := 3) sc_lots_in.nd rfl (.inl rfl) (pe_op op_cat (pv 3) (pe_lc (own := [("lot", 6)]) (g := (gName 6)) rfl sc_lots_in.nd (pi_list (pv 3)) (blkOk_by (N := N_lots_in) (sc := defScope sd_lots_in) (by decide +kernel)) (fun _ _ _ _ _ => (pg_name (i := 6) sc_lots_in.nd rfl (.inl rfl))) (fun _ _ _ _ _ => (pts_one (pt_val (pe_callB ((cr_all rfl) : CallR _ _ (rAll K)) (by rfl) T.all_ bo_all (pa_cons (pe_lc (own := [("other", 7)]) (g := (gName 7)) rfl sc_lots_in.nd (show PI _ _ _ (iTup K _) from pi_tup (pv 6)) (blkOk_by (N := N_lots_in) (sc := sc_lot) (by decide +kernel)) (fun _ _ _ _ _ => (pg_name (i := 7) sc_lots_in.nd rfl (.inl rfl))) (fun _ _ _ _ _ => pts_nil) (fun _ _ _ _ _ => (pe_cmpR ((op_inD (u65 hr)) : OpR _ _ (rInD K)) (pe_tup (pa_cons (pv 7) (pa_cons (pv 4) pa_nil))) (pv 2) rfl))) pa_nil))))) (fun _ _ _ _ _ => (pe_op (op_catA : OpR _ _ (rCatA K)) (pv 6) (pe_tup (pa_cons (pv 4) pa_nil)))))))))
      (pss_one (ps_ret (pe_callB (cr_sortTu hr.units) (by rfl) T.sorted_ bo_sorted (pa_cons (pv 3) pa_nil))))))), ?_⟩
  have wl := web_linesD W
  have al : ∀ x ∈ trs.map tripD, lineD n x = true := List.all_eq_true.mp (Bool.and_eq_true_iff.mp (show ((trs.map tripD).all (lineD n) && decide (((trs.map tripD).map pairD).Nodup)) = true from wl)).1
  have n5 := W.n5
  refine seq1 (asg1 (pairs_read (K := K) (j := 5) (n := n) (fun R h => ⟨_, rfl, h⟩) hl (pd_lines ht) (by rw [List.length_map, paired_len ht]; omega) al (fun _ => rfl) (fun _ => rfl) fun dp H2 ks s2 hdp e2 ek ekp => ?_))
  have tp : TupsAt K H2 dp ((trs.map tripD).map pairD) := ⟨ks, SqL.of e2, fun p hp => (ekp p hp).1, ek⟩
  dsimp only
  refine seq1 (asg1 ⟨(by show 0 ≤ sizeLine; decide), fun t0 ht0 => ⟨(by show 1 ≤ sizeLine; decide), fun d0 hd0 => ?_⟩⟩)
  dsimp only
  refine seq1 ⟨_, rfl, (n : Nat), rfl, by omega, by omega, ?_⟩
  refine for_walk (wk_range (n := n)) (fun i σ H' => ∃ (df : Addr) (x4 x5 x6 x7 : Option V) (ks : List (Addr × List Int)), σ = [some (.int (n : Nat)), some (.ref la), some (.ref dp), some (.ref df), x4, x5, x6, x7] ∧ Same H2 H' ∧ H' df = some (.lst (ks.map fun p => V.ref p.1)) ∧ (∀ p ∈ ks, SqT K H' p.1 (p.2.map V.int)) ∧ ks.map (·.2) = (lotsTo (pairsOfT trs) i).map toI)
    ?_ (fun _ _ _ _ _ => True.intro) (fun i x σ H3 H4 hi ⟨df, x4, x5, x6, x7, ks3, eσ, s3, e3, k3, m3⟩ s4 it => ?_) fun σ H3 ⟨df, x4, x5, x6, x7, ks3, eσ, s3, e3, k3, m3⟩ => ?_
  · refine ⟨d0, _, _, _, _, [(t0, [])], rfl, (Same.new ht0).trans (Same.new hd0), upd_same, fun p hp => ?_, rfl⟩
    rw [List.mem_singleton.mp hp]
    exact (Same.new hd0).seqT (SqT.of upd_same)
  · subst eσ it
    have z0 : (0 : Int) + (i : Int) = (i : Int) := by omega
    rw [z0]
    have lz := lotsTo_len (pairsOfT trs) i
    have l2 : 2 ^ i ≤ 2 ^ 5 := Nat.pow_le_pow_right (by decide) (by omega)
    have kl : ks3.length = (lotsTo (pairsOfT trs) i).length := by
      have := congrArg List.length m3
      rw [List.length_map, List.length_map] at this
      exact this
    refine asg1 (op1 ⟨_, rfl, ?_⟩)
    refine ⟨_, rfl, df, rfl, ⟨_, SqL.of (s4 _ _ e3)⟩, lc_walk (wk_list (K := K) (xs := ks3.map fun p => V.ref p.1)) (fun j => ((lotsTo (pairsOfT trs) i).getD j []).all fun o => decide ((o, i) ∈ pairsOfT trs))
      (fun D j y H => ∃ t, y = V.ref t ∧ t ≠ D ∧ H t = some (.tup ((toI ((lotsTo (pairsOfT trs) i).getD j [] ++ [i])).map V.int))) (fun D j y H1 H2 b ⟨t, e1, n, h⟩ => ⟨t, e1, n, b _ _ n h⟩) (by rw [List.length_map, kl]; exact Nat.lt_of_le_of_lt lz (Nat.lt_of_le_of_lt l2 (by decide))) (SqL.of (s4 _ _ e3))
      (fun D j x H5 C N hj it5 s5 hD5 ac5 kC kN => ?_) (fun D H5 ys s5 hD5 e5 r5 => ?_)⟩
    · have hj' : j < ks3.length := by
        rw [List.length_map] at hj
        exact hj
      have hl : j < (lotsTo (pairsOfT trs) i).length := by rw [← kl]; exact hj'
      obtain ⟨lot, elot⟩ : ∃ lot, (lotsTo (pairsOfT trs) i)[j]? = some lot := ⟨_, List.getElem?_eq_getElem hl⟩
      have egd : (lotsTo (pairsOfT trs) i).getD j [] = lot := by rw [List.getD_eq_getElem?_getD, elot]; rfl
      obtain ⟨p, ep⟩ : ∃ p, ks3[j]? = some p := ⟨_, List.getElem?_eq_getElem hj'⟩
      have ex : x = V.ref p.1 := by
        have h1 : (ks3.map fun p => V.ref p.1)[j]? = some x := it5
        rw [List.getElem?_map, ep] at h1
        exact (Option.some.inj h1).symm
      subst ex
      have e2p : p.2 = toI lot := by
        have h1 : (ks3.map (·.2))[j]? = some (toI lot) := by rw [m3, List.getElem?_map, elot]; rfl
        rw [List.getElem?_map, ep] at h1
        exact Option.some.inj h1
      have hp : SqT K H5 p.1 ((toI lot).map V.int) := by
        have := k3 p (List.mem_of_getElem? ep)
        rw [e2p] at this
        exact (s4.trans s5).seqT this
      have la := lotsTo_at (pairsOfT trs) i lot (List.mem_of_getElem? elot)
      have tp5 : TupsAt K H5 dp ((trs.map tripD).map pairD) := tp.mono (s3.trans (s4.trans s5))
      have lsz : ((toI lot).map V.int).length = lot.length := by rw [List.length_map, List.length_map]
      rw [egd] at kC kN
      refine ⟨rfl, ?_⟩
      refine tcb1 ⟨_, rfl, p.1, rfl, ⟨_, hp⟩, lc_walkV (wk_tup (K := K) (xs := (toI lot).map V.int)) (fun q => V.bl (decide ((lot.getD q 0, i) ∈ pairsOfT trs))) (by rw [lsz]; exact Nat.lt_of_le_of_lt la.1 (Nat.lt_of_lt_of_le hi (Nat.le_trans n5 (by decide)))) hp
        (fun D2 q z H6 C2 hq it6 s6 hD6 ac6 hC6 => ?_) fun D2 H6 s6 hD6 e6 => ?_⟩
      · refine ⟨rfl, ?_⟩
        have hq' : q < lot.length := by rw [lsz] at hq; exact hq
        obtain ⟨o, eo⟩ : ∃ o, lot[q]? = some o := ⟨_, List.getElem?_eq_getElem hq'⟩
        have ez : z = V.int (o : Int) := by
          have h1 : ((toI lot).map V.int)[q]? = some z := it6
          rw [List.getElem?_map, List.getElem?_map, eo] at h1
          exact (Option.some.inj h1).symm
        subst ez
        have eg : lot.getD q 0 = o := by rw [List.getD_eq_getElem?_getD, eo]; rfl
        rw [eg] at hC6
        refine op1 ⟨_, rfl, _, rfl, (by show 2 ≤ sizeLine; decide), fun t ht => ⟨_, rfl, in_tups (k := [(o : Int), (i : Int)]) (SqT.of upd_same) ((tp5.mono s6).mono (Same.new ht)) ?_⟩⟩
        rw [decide_eq_decide.mpr (pair_mem (trs := trs) (x := o) (y := i))]
        exact hC6 _ (Same.new ht)
      · have eb : ((List.range ((toI lot).map V.int).length).map fun q => V.bl (decide ((lot.getD q 0, i) ∈ pairsOfT trs))) = (lot.map fun o => decide ((o, i) ∈ pairsOfT trs)).map V.bl := by
          rw [lsz, List.map_map]
          exact List.ext_getElem (by rw [List.length_map, List.length_map, List.length_range]) fun q h1 h2 => by
            rw [List.getElem_map, List.getElem_map, List.getElem_range, List.getD_eq_getElem?_getD, List.getElem?_eq_getElem (by rw [List.length_map] at h2; exact h2)]
            rfl
        rw [eb] at e6
        refine ⟨D2, _, rfl, SqL.of e6, _, rfl, ?_⟩
        rw [show (lot.map fun o => decide ((o, i) ∈ pairsOfT trs)).all id = lot.all fun o => decide ((o, i) ∈ pairsOfT trs) from List.all_map]
        obtain ⟨acc, hacc⟩ := ac5
        change (if (lot.all fun o => decide ((o, i) ∈ pairsOfT trs)) = true then _ else _)
        by_cases hk : (lot.all fun o => decide ((o, i) ∈ pairsOfT trs)) = true
        · rw [if_pos hk]
          refine op1 ⟨_, rfl, _, rfl, (by show 1 ≤ sizeLine; decide), fun t ht => ⟨p.1, t, _, _, rfl, rfl, (Same.new ht).seqT (s6.seqT hp), SqT.of upd_same, ?_, fun e0 => ?_, fun _ e0 => ?_, fun e0 _ t2 ht2 => ?_⟩⟩
          · rw [lsz]
            have := la.1
            show lot.length + 1 ≤ sizeLine
            exact Nat.le_trans (show lot.length + 1 ≤ 6 by omega) (by decide)
          · have el : lot = [] := List.map_eq_nil_iff.mp (List.map_eq_nil_iff.mp e0)
            refine kC _ _ hk (s6.trans (Same.new ht)) ⟨t, rfl, ne_of_none' (s6 _ _ hacc) ht, ?_⟩
            rw [el]
            exact upd_same
          · cases e0
          · refine kC _ _ hk (s6.trans ((Same.new ht).trans (Same.new ht2))) ⟨t2, rfl, ne_of_none' (((Same.new ht) _ _ (s6 _ _ hacc))) ht2, ?_⟩
            rw [show (toI (lot ++ [i])).map V.int = (toI lot).map V.int ++ [V.int (i : Int)] by unfold toI; rw [List.map_append, List.map_append]; rfl]
            exact upd_same
        · rw [if_neg hk]
          exact kN _ (by simpa using hk) s6
    · obtain ⟨ks5, ey, k5, m5⟩ := paired_ks (F := fun j => toI ((lotsTo (pairsOfT trs) i).getD j [] ++ [i])) r5
      rw [show (ks3.map fun p => V.ref p.1).length = (lotsTo (pairsOfT trs) i).length by rw [List.length_map]; exact kl, range_filter_map (lotsTo (pairsOfT trs) i) [] (fun lot => lot.all fun o => decide ((o, i) ∈ pairsOfT trs)) (fun lot => toI (lot ++ [i]))] at m5
      subst ey
      have l5 : ks5.length ≤ 2 ^ i := by
        have h1 := congrArg List.length m5
        rw [List.length_map, List.length_map] at h1
        have h2 := List.length_filter_le (fun lot : List Nat => lot.all fun o => decide ((o, i) ∈ pairsOfT trs)) (lotsTo (pairsOfT trs) i)
        omega
      have s25 := s3.trans (s4.trans s5)
      refine ⟨df, D, _, _, rfl, rfl, (s4.trans s5) _ _ e3, e5, ?_, fun p hp => ?_⟩
      · rw [List.length_map, List.length_map]
        exact Nat.le_trans (show ks3.length + ks5.length ≤ 64 by omega) (by decide)
      · refine ⟨p, _, _, _, _, ks3 ++ ks5, rfl, s25.trans (Same.new hp), by rw [List.map_append]; exact upd_same, fun k hk => ?_, ?_⟩
        · rcases List.mem_append.mp hk with z | z
          · exact (Same.new hp).seqT ((s4.trans s5).seqT (k3 k z))
          · exact (Same.new hp).seqT (SqT.of (k5 k z))
        · rw [List.map_append, m3, m5]
          show _ = (lotsTo (pairsOfT trs) i ++ _).map toI
          rw [List.map_append, List.map_map]
          rfl
  · subst eσ
    dsimp only
    refine ret1 (tcb1 ⟨_, rfl, ?_⟩)
    obtain ⟨r0, er⟩ := lotsTo_nil (pairsOfT trs) n
    obtain ⟨p0, kr, ek3⟩ : ∃ p0 kr, ks3 = p0 :: kr := by
      cases ks3 with
      | nil => rw [er] at m3; cases m3
      | cons a b => exact ⟨a, b, rfl⟩
    have ep0 : p0.2 = [] := by
      rw [er, ek3] at m3
      exact (List.cons.inj m3).1
    refine ⟨df, _, keyAt ks3, V.ref p0.1, kr.map fun p => V.ref p.1, rfl, SqL.of e3, by rw [ek3]; rfl, by rw [ek3, keyAt_head]; exact ep0, fun x hx => ?_, fun ys p hp hn => ?_⟩
    · obtain ⟨k, hk, e⟩ := List.mem_map.mp hx
      subst e
      obtain ⟨k', hk', e1, e2'⟩ := keyAt_of hk
      refine ⟨k.1, rfl, ?_⟩
      rw [e2', ← e1]
      exact k3 k' hk'
    · obtain ⟨ks', pk, ey⟩ := perm_map_of hp (l := ks3) (f := fun p => V.ref p.1) rfl
      obtain ⟨ls, pl, el⟩ := perm_map_of (pk.map (·.2)) (l := lotsTo (pairsOfT trs) n) (f := toI) m3
      exact q _ p ls ((s2.trans s3).trans (Same.new hn)) ((s2.trans s3).free hn) ⟨ks', by rw [← ey]; exact SqL.of upd_same, fun k hk => (Same.new hn).seqT (k3 k (pk.mem_iff.mp hk)), el⟩ pl
end
end Kz
end
section
set_option Elab.async false
set_option linter.all false
set_option maxRecDepth 100000
set_option maxHeartbeats 4000000
/-! the series, 2 -/
namespace Kz
open PySem PySem.Spec PyProof.Rows L2 KzM
def spProducts (K : PySem.W.Frag) : Sp := fun vs H Q _ => ∃ (a b : Addr) (one other : List Int), vs = [.ref a, .ref b] ∧ SqL K H a (one.map V.int) ∧ SqL K H b (other.map V.int) ∧ 1 ≤ one.length ∧ 1 ≤ other.length ∧ one.length ≤ 100 ∧ other.length ≤ 100 ∧ Bits 60 one ∧
  ∀ H' d (r : List Int), Same H H' → H d = none → H' d = some (.lst (r.map V.int)) → r.length = one.length + other.length - 1 → (∀ k, co r k = conv (co one) (co other) k) → Q (.ref d) H'
def spLists (K : PySem.W.Frag) : Sp := fun vs H Q _ => ∃ (a b : Addr) (one other : List Int), vs = [.ref a, .ref b] ∧ SqL K H a (one.map V.int) ∧ SqL K H b (other.map V.int) ∧ one.length ≤ 100 ∧ other.length ≤ 100 ∧
  ∀ H' d (r : List Int), Same H H' → H d = none → H' d = some (.lst (r.map V.int)) → r.length = max one.length other.length → (∀ k, co r k = co one k + co other k) → Q (.ref d) H'
def spCommonNumber (K : PySem.W.Frag) : Sp := fun vs H Q _ => ∃ (a : Addr) (l : List Int), vs = [.ref a] ∧ SqL K H a (l.map V.int) ∧ ∀ H', Same H H' → Q (.int ((gcdTo l : Nat) : Int)) H'
theorem rep_zero (m : Nat) : (List.replicate m [V.int 0]).flatten = (List.replicate m (0 : Int)).map V.int := by
  induction m with
  | zero => rfl
  | succ m ih =>
    rw [List.replicate_succ, List.replicate_succ, List.flatten_cons, ih]
    rfl
theorem co_rep (m k : Nat) : co (List.replicate m (0 : Int)) k = 0 := by
  unfold co
  rw [List.getD_eq_getElem?_getD, List.getElem?_replicate]
  by_cases h : k < m
  · rw [if_pos h]; rfl
  · rw [if_neg h]; rfl
theorem co_set {l : List Int} {i : Nat} {z : Int} (h : i < l.length) (k : Nat) : co (l.set i z) k = if i = k then z else co l k := by
  unfold co
  rw [List.getD_eq_getElem?_getD, List.getD_eq_getElem?_getD, List.getElem?_set]
  by_cases e : i = k
  · rw [if_pos e, if_pos e, if_pos h]
    rfl
  · rw [if_neg e, if_neg e]
theorem ixN_nat {n i : Nat} (h : i < n) : ixN n (i : Int) = some i := by
  unfold ixN
  rw [if_pos (by omega), if_pos (by omega)]
  exact congrArg some (Int.toNat_natCast _)
theorem int_at {l : List Int} {i : Nat} {z : V} (h : (l.map V.int)[i]? = some z) : z = .int (co l i) ∧ l[i]? = some (co l i) ∧ i < l.length := by
  rw [List.getElem?_map] at h
  cases e : l[i]? with
  | none => rw [e] at h; cases h
  | some v =>
    rw [e] at h
    have := co_at e
    rw [this]
    exact ⟨(Option.some.inj h).symm, rfl, (List.getElem?_eq_some_iff.mp e).1⟩
section
variable {P : Program} {w : World} {K : PySem.W.Frag} {mg : Str → Option Value} {base : Heap}
abbrev N_products_joined : List Str := ["one", "other", "found", "i", "here", "k", "there"]
theorem sc_products_joined : FnScope N_products_joined ["one", "other"] (defScope sd_products_joined) := ⟨rfl, rfl, rfl, by decide +kernel, rfl, by decide +kernel, by decide +kernel⟩
theorem f_products_joined (D : DefAt K mg "products_joined" sd_products_joined) (T : Txt K mg) : FnS P w K mg base CX0 1 "products_joined" ["one", "other"] (spProducts K) :=
  mkFn D sc_products_joined (fun _ _ _ _ _ _ us hl => match us, hl with | [_, _], _ => rfl) (fun vs H Q E ⟨_, _, _, _, e, _⟩ => by rw [e]; rfl) fun cdv A outer s H vs Q E hr ⟨a, b, one, other, e, ha, hb, l1, l2, m1, m2, bb, q⟩ => by
  subst e
  have big : 20000 < sizeLine := by decide
  refine ⟨_, (pss_cons (ps_set (i := 2) sc_products_joined.nd rfl (.inl rfl) (pe_op op_rep (pe_lst (pa_cons pe_int pa_nil)) (pe_op op_sub (pe_op op_add (pe_callB call_len_seq (by rfl) T.len_ bo_len (pa_cons (pv 0) pa_nil)) (pe_callB call_len_seq (by rfl) T.len_ bo_len (pa_cons (pv 1) pa_nil))) pe_int)))
      (pss_cons (ps_for (passes_of rfl) rfl (pi_enum (by rfl) T.enumerate_ (pa_cons (pv 0) pa_nil)) (pg_tup rfl (pgs_cons (pg_name (i := 3) sc_products_joined.nd rfl (.inl rfl)) (pgs_cons (pg_name (i := 4) sc_products_joined.nd rfl (.inl rfl)) pgs_nil))) (pss_one (ps_for (passes_of rfl) rfl (pi_enum (by rfl) T.enumerate_ (pa_cons (pv 1) pa_nil)) (pg_tup rfl (pgs_cons (pg_name (i := 5) sc_products_joined.nd rfl (.inl rfl)) (pgs_cons (pg_name (i := 6) sc_products_joined.nd rfl (.inl rfl)) pgs_nil))) (pss_one (ps_augS (pv 2) (pe_op op_add (pv 3) (pv 5)) get_list (pe_op op_mul (pv 4) (pv 6)) ip_add set_list)))))
      (pss_one (ps_ret (pv 2))))), ?_⟩
  refine ⟨(by show 1 ≤ sizeLine; decide), fun o ho => ?_⟩
  have s1 : Same H (upd H o (.lst [.int 0])) := Same.new ho
  have en : ∃ N : Nat, N = one.length + other.length - 1 ∧ ((one.length : Int) + (other.length : Int) - 1) = (N : Int) := ⟨_, rfl, by omega⟩
  obtain ⟨N, eN, eNi⟩ := en
  refine ⟨_, rfl, a, _, rfl, .inl (s1.seq ha), _, rfl, b, _, rfl, .inl (s1.seq hb), _, _, rfl, rfl, _, _, rfl, rfl, o, (N : Int), _, rfl, ?_, upd_same, by omega, by omega, ?_, fun d hd => ?_⟩
  · show V.int (((one.map V.int).length : Int) + ((other.map V.int).length : Int) - 1) = _
    rw [List.length_map, List.length_map, eNi]
  · show 1 * ((N : Int)).toNat ≤ sizeLine
    rw [Int.toNat_natCast]
    omega
  rw [Int.toNat_natCast]
  have s2 := s1.trans (Same.new (o := .lst (List.replicate N [V.int 0]).flatten) hd)
  have hdH : H d = none := s1.free hd
  refine ⟨_, rfl, a, _, rfl, s2.seq ha, for_walk wk_enum (fun i σ H' => ∃ (r : List Int) (x3 x4 x5 x6 : Option V), σ = [some (.ref a), some (.ref b), some (.ref d), x3, x4, x5, x6] ∧ Same H H' ∧ H' d = some (.lst (r.map V.int)) ∧ r.length = N ∧ ∀ n, co r n = conv (co (one.take i)) (co other) n)
    ⟨List.replicate N 0, _, _, _, _, rfl, s2, by rw [upd_same, rep_zero], List.length_replicate, fun n => by rw [co_rep, conv_zeroL (co other) (f := co (one.take 0)) (fun _ => rfl)]⟩ (fun i σ H' hi ⟨_, _, _, _, _, _, s3, _⟩ => s3.seq ha) (fun i x σ H1 H2 hi ⟨r, x3, x4, x5, x6, eσ, s3, hr1, lr, gr⟩ s4 it => ?_) fun σ H1 ⟨r, x3, x4, x5, x6, eσ, s3, hr1, lr, gr⟩ => ?_⟩
  · subst eσ
    obtain ⟨t, z, rfl, ht, hz⟩ := it
    obtain ⟨rfl, hoi, hi2⟩ := int_at hz
    have s34 := s3.trans s4
    refine ⟨t, _, rfl, SqT.of ht, rfl, _, _, rfl, _, _, rfl, rfl, ?_⟩
    refine ⟨_, rfl, b, _, rfl, s34.seq hb, for_walk wk_enum (fun k σ H' => ∃ (r : List Int) (x5 x6 : Option V), σ = [some (.ref a), some (.ref b), some (.ref d), some (.int (i : Nat)), some (.int (co one i)), x5, x6] ∧ Same H H' ∧ H' d = some (.lst (r.map V.int)) ∧ r.length = N ∧ ∀ n, co r n = conv (co (one.take i)) (co other) n + if i ≤ n then co one i * co (other.take k) (n - i) else 0)
      ⟨r, _, _, rfl, s34, s4 _ _ hr1, lr, fun n => by rw [gr, show co (other.take 0) (n - i) = 0 from rfl, Int.mul_zero]; simp⟩ (fun k σ H' hk ⟨_, _, _, _, s5, _⟩ => s5.seq hb) (fun k x σ H3 H4 hk ⟨r, x5, x6, eσ, s5, hr3, lr, gr⟩ s6 it => ?_) fun σ H3 ⟨r, x5, x6, eσ, s5, hr3, lr, gr⟩ => ?_⟩
    · subst eσ
      obtain ⟨t2, z2, rfl, ht2, hz2⟩ := it
      obtain ⟨rfl, hok, hk2⟩ := int_at hz2
      have s56 := s5.trans s6
      have eik : ((i : Int) + (k : Int)) = ((i + k : Nat) : Int) := by omega
      have lt : i + k < r.length := by omega
      refine ⟨t2, _, rfl, SqT.of ht2, rfl, _, _, rfl, _, _, rfl, rfl, ?_⟩
      refine ⟨_, rfl, _, rfl, _, rfl, _, _, rfl, rfl, d, _, i + k, _, rfl, congrArg V.int eik, SqL.of (s6 _ _ hr3), map_at lt, _, rfl, _, rfl, _, _, rfl, rfl, .inl (bits_mul bb (by decide) _), _, _, rfl, rfl, d, _, ((i + k : Nat) : Int), i + k, rfl, congrArg V.int eik, s6 _ _ hr3, (by rw [List.length_map]; exact ixN_nat lt), ?_⟩
      refine ⟨r.set (i + k) (co r (i + k) + co one i * co other k), _, _, rfl, s56.put hdH, by rw [upd_same, List.map_set], by rw [List.length_set]; exact lr, fun n => ?_⟩
      rw [co_set lt, co_take_succ hok]
      unfold mono
      by_cases e : i + k = n
      · subst e
        rw [if_pos rfl, gr, if_pos (by omega), if_pos (by omega), if_pos (by omega), Int.mul_add]
        omega
      · rw [if_neg e, gr]
        by_cases h : i ≤ n
        · rw [if_pos h, if_pos h, if_neg (by omega), Int.add_zero]
        · rw [if_neg h, if_neg h]
    · subst eσ
      refine ⟨r, _, _, _, _, rfl, s5, hr3, lr, fun n => ?_⟩
      rw [gr, conv_take (co other) hoi, List.length_map, List.take_length]
  · subst eσ
    refine ⟨_, rfl, q _ d r s3 hdH hr1 (by omega) fun k => ?_⟩
    rw [gr, List.length_map, List.take_length]
abbrev N_common_number : List Str := ["some", "found", "item"]
theorem sc_common_number : FnScope N_common_number ["some"] (defScope sd_common_number) := ⟨rfl, rfl, rfl, by decide +kernel, rfl, by decide +kernel, by decide +kernel⟩
theorem f_common_number (D : DefAt K mg "common_number" sd_common_number) (T : Txt K mg) : FnS P w K mg base CX0 1 "common_number" ["some"] (spCommonNumber K) :=
  mkFn D sc_common_number (fun _ _ _ _ _ _ us hl => match us, hl with | [_], _ => rfl) (fun vs H Q E ⟨_, _, e, _⟩ => by rw [e]; rfl) fun cdv A outer s H vs Q E hr ⟨a, l, e, ha, q⟩ => by
  subst e
  refine ⟨_, (pss_cons (ps_set (i := 1) sc_common_number.nd rfl (.inl rfl) pe_int)
      (pss_cons (ps_for (passes_of rfl) rfl (pi_list (pv 0)) (pg_name (i := 2) sc_common_number.nd rfl (.inl rfl)) (pss_one (ps_while (passes_of rfl) (pt_cmpR op_ne (pv 2) pe_int (nomark _)) (pss_one (ps_par (i := 1) (j := 2) rfl sc_common_number.nd rfl rfl (by decide) rfl rfl (pa_cons (pv 2) (pa_cons (pe_op op_modN (pv 1) (pv 2)) pa_nil)) (by rfl))))))
      (pss_one (ps_ret (pe_callB call_abs (by rfl) T.abs_ bo_abs (pa_cons (pv 1) pa_nil)))))), ?_⟩
  refine ⟨_, rfl, a, rfl, ⟨_, ha⟩, for_walk wk_list (fun i σ H' => ∃ (f : Int) (x2 : Option V), σ = [some (.ref a), some (.int f), x2] ∧ Same H H' ∧ f.natAbs = gcdTo (l.take i))
    ⟨0, _, rfl, Same.refl _, rfl⟩ (fun i σ H' hi ⟨_, _, _, s1, _⟩ => s1.seq ha) (fun i x σ H1 H2 hi ⟨f, x2, eσ, s1, gf⟩ s2 it => ?_) fun σ H1 ⟨f, x2, eσ, s1, gf⟩ => ?_⟩
  · subst eσ
    obtain ⟨rfl, hli, _⟩ := int_at it
    refine while_own (fun σ H' => ∃ (f z : Int), σ = [some (.ref a), some (.int f), some (.int z)] ∧ Same H H' ∧ Int.gcd f z = gcdTo (l.take (i + 1))) (fun σ _ => match σ with | [_, _, some (.int z)] => z.natAbs | _ => 0)
      ⟨f, co l i, rfl, s1.trans s2, by
        rw [List.take_add_one, hli]
        show _ = gcdTo (l.take i ++ [co l i])
        rw [gcd_snoc, ← gf]
        simp [Int.gcd]⟩ ?_
    rintro σ H3 ⟨f, z, rfl, s3, g3⟩
    refine ⟨_, rfl, rfl, _, rfl, ?_⟩
    by_cases e : z = 0
    · subst e
      refine ⟨f, _, rfl, s3, ?_⟩
      rw [← g3]
      simp [Int.gcd]
    · have : decide (V.int z = V.int 0) = false := decide_eq_false fun q => e (V.int.inj q)
      rw [this]
      refine ⟨_, whN, _, rfl, _, rfl, _, rfl, _, _, rfl, rfl, e, _, _, rfl, ⟨z, f.fmod z, rfl, s3, ?_⟩, ?_⟩
      · rw [gcd_fmod, g3]
      · exact fmod_lt e
  · subst eσ
    refine ⟨_, rfl, f, rfl, ?_⟩
    rw [List.length_map, List.take_length] at gf
    have e : (if f < 0 then -f else f) = ((gcdTo l : Nat) : Int) := by
      rw [← gf]
      split <;> omega
    rw [e]
    exact q _ s1
abbrev N_lists_joined : List Str := ["one", "other", "size", "here", "there", "row", "a", "b"]
theorem sc_lists_joined : FnScope N_lists_joined ["one", "other"] (defScope sd_lists_joined) := ⟨rfl, rfl, rfl, by decide +kernel, rfl, by decide +kernel, by decide +kernel⟩
theorem f_lists_joined (D : DefAt K mg "lists_joined" sd_lists_joined) (T : Txt K mg) : FnS P w K mg base CX0 1 "lists_joined" ["one", "other"] (spLists K) :=
  mkFn D sc_lists_joined (fun _ _ _ _ _ _ us hl => match us, hl with | [_, _], _ => rfl) (fun vs H Q E ⟨_, _, _, _, e, _⟩ => by rw [e]; rfl) fun cdv A outer s H vs Q E hr ⟨a, b, one, other, e, ha, hb, m1, m2, q⟩ => by
  subst e
  have big : 20000 < sizeLine := by decide
  refine ⟨_, (pss_cons (ps_set (i := 2) sc_lists_joined.nd rfl (.inr rfl) (pe_callB (call_max2 rfl) (by rfl) T.max_ bo_max (pa_cons (pe_callB call_len_seq (by rfl) T.len_ bo_len (pa_cons (pv 0) pa_nil)) (pa_cons (pe_callB call_len_seq (by rfl) T.len_ bo_len (pa_cons (pv 1) pa_nil)) pa_nil))))
      (pss_cons (ps_asg (pe_lc (own := [("row", 5)]) (g := (gName 5)) rfl sc_lists_joined.nd (pi_tup (pe_tup (pa_cons (pv 0) (pa_cons (pv 1) pa_nil)))) (blkOk_by (N := N_lists_joined) (sc := defScope sd_lists_joined) (by decide +kernel)) (fun _ _ _ _ _ => (pg_name (i := 5) sc_lists_joined.nd rfl (.inl rfl))) (fun _ _ _ _ _ => pts_nil) (fun _ _ _ _ _ => (pe_op op_cat (pe_callTy (call_list_of : CallR _ _ (listR K)) (by rfl) T.list_ bo_list (pa_cons (pv 5) pa_nil)) (pe_op op_rep (pe_lst (pa_cons pe_int pa_nil)) (pe_op op_sub (pv 2) (pe_callB (call_len_seq : CallR _ _ (lenR K)) (by rfl) T.len_ bo_len (pa_cons (pv 5) pa_nil))))))) (pg_lst rfl (pgs_cons (pg_name (i := 3) sc_lists_joined.nd rfl (.inl rfl)) (pgs_cons (pg_name (i := 4) sc_lists_joined.nd rfl (.inl rfl)) pgs_nil))))
      (pss_one (ps_ret (pe_lc (own := [("a", 6), ("b", 7)]) (g := (gTup _ 2 (gCons (gName 6) (gCons (gName 7) gNil)))) rfl sc_lists_joined.nd (pi_zip (by rfl) T.zip_ (pa_cons (pv 3) (pa_cons (pv 4) pa_nil))) (blkOk_by (N := N_lists_joined) (sc := defScope sd_lists_joined) (by decide +kernel)) (fun _ _ _ _ _ => (pg_tup rfl (pgs_cons (pg_name (i := 6) sc_lists_joined.nd rfl (.inl rfl)) (pgs_cons (pg_name (i := 7) sc_lists_joined.nd rfl (.inl rfl)) pgs_nil)))) (fun _ _ _ _ _ => pts_nil) (fun _ _ _ _ _ => (pe_op op_add (pv 6) (pv 7)))))))), ?_⟩
  have en : ∃ N : Nat, N = max one.length other.length ∧ (if ((other.length : Int)) > (one.length : Int) then (other.length : Int) else (one.length : Int)) = (N : Int) := ⟨_, rfl, by
    split <;> omega⟩
  obtain ⟨N, eN, eNi⟩ := en
  refine ⟨_, rfl, a, _, rfl, .inl ha, _, rfl, b, _, rfl, .inl hb, (one.length : Int), (other.length : Int), (by show [V.int ((one.map V.int).length : Int), V.int ((other.map V.int).length : Int)] = _; rw [List.length_map, List.length_map]), ?_⟩
  rw [eNi]
  refine ⟨_, rfl, _, rfl, (by show 2 ≤ sizeLine; decide), fun t ht => ?_⟩
  have s1 : Same H (upd H t (.tup [.ref a, .ref b])) := Same.new ht
  let F : Nat → List Int := fun i => (if i = 0 then one else other) ++ List.replicate (N - (if i = 0 then one else other).length) 0
  refine ⟨t, rfl, ⟨_, SqT.of upd_same⟩, lc_walk (wk_tup (K := K) (xs := [V.ref a, V.ref b])) (fun _ => true) (fun D i y H => ∃ e, y = V.ref e ∧ e ≠ D ∧ H e = some (.lst ((F i).map V.int))) (fun D i y H1 H2 b ⟨e, e1, n, h⟩ => ⟨e, e1, n, b _ _ n h⟩) (by show 2 < sizeLine; decide) (SqT.of upd_same)
    (fun DD i x H' C N' hi it s2 hDD ac kC kN' => ?_) fun DD H' ys s2 hDD e2 r2 => ?_⟩
  · have s12 := s1.trans s2
    obtain ⟨acc, hacc⟩ := ac
    have row : ∃ (ad : Addr) (l : List Int), x = .ref ad ∧ SqL K H' ad (l.map V.int) ∧ l.length ≤ N ∧ F i = l ++ List.replicate (N - l.length) 0 := by
      have it : ([V.ref a, V.ref b])[i]? = some x := it
      have hi : i < 2 := hi
      by_cases e : i = 0
      · subst e
        exact ⟨a, one, (Option.some.inj it).symm, s12.seq ha, by omega, rfl⟩
      · have : i = 1 := by omega
        subst this
        exact ⟨b, other, (Option.some.inj it).symm, s12.seq hb, by omega, rfl⟩
    obtain ⟨ad, l, rfl, hl, ll, eF⟩ := row
    refine ⟨rfl, _, rfl, ad, _, rfl, .inl hl, fun d1 hd1 => ?_⟩
    have s3 : Same H' (upd H' d1 (.lst (l.map V.int))) := Same.new hd1
    refine ⟨(by show 1 ≤ sizeLine; decide), fun d2 hd2 => ?_⟩
    have s4 := s3.trans (Same.new (o := .lst [V.int 0]) hd2)
    have n12 : d1 ≠ d2 := ne_of_none upd_same hd2
    refine ⟨_, rfl, _, rfl, ad, _, rfl, .inl (s4.seq hl), _, _, rfl, rfl, d2, ((N - l.length : Nat) : Int), _, rfl, ?_, upd_same, by omega, by omega, ?_, fun d3 hd3 => ?_⟩
    · show V.int ((N : Int) - ((l.map V.int).length : Int)) = _
      rw [List.length_map]
      exact congrArg V.int (by omega)
    · show 1 * (((N - l.length : Nat) : Int)).toNat ≤ sizeLine
      rw [Int.toNat_natCast]
      omega
    rw [Int.toNat_natCast, rep_zero]
    have s5 := s4.trans (Same.new (o := .lst ((List.replicate (N - l.length) (0 : Int)).map V.int)) hd3)
    have n13 : d1 ≠ d3 := ne_of_none (by rw [upd_ne n12, upd_same]) hd3
    refine ⟨d1, d3, _, _, rfl, rfl, by rw [upd_ne n13, upd_ne n12, upd_same], upd_same, by rw [List.length_map, List.length_map, List.length_replicate]; omega, fun d4 hd4 => ?_⟩
    refine kC _ _ rfl (s5.trans (Same.new hd4)) ⟨d4, rfl, ne_of_none' (s5 _ _ hacc) hd4, ?_⟩
    rw [upd_same, eF, List.map_append]
  · have s12 := s1.trans s2
    have r7 : Paired (fun i y => ∃ e, y = V.ref e ∧ e ≠ DD ∧ H' e = some (.lst ((F i).map V.int))) [0, 1] ys := r2
    clear r2
    cases r7 with
    | cons r0 r6 =>
      cases r6 with
      | cons r1 r5 =>
        cases r5
        obtain ⟨d0, rfl, n0, h0⟩ := r0
        obtain ⟨d1, rfl, n1, h1⟩ := r1
        have hDH : H DD = none := s1.free hDD
        refine ⟨DD, _, rfl, SqL.of e2, rfl, _, _, rfl, _, _, rfl, rfl, ?_⟩
        have lF : ∀ i, i < 2 → (F i).length = N := fun i hi => by
          show ((if i = 0 then one else other) ++ List.replicate (N - (if i = 0 then one else other).length) 0).length = N
          rw [List.length_append, List.length_replicate]
          have : (if i = 0 then one else other).length ≤ N := by split <;> omega
          omega
        have cF : ∀ (l : List Int) m k, co (l ++ List.replicate m 0) k = co l k := fun l m k => by
          unfold co
          rw [List.getD_eq_getElem?_getD, List.getD_eq_getElem?_getD]
          by_cases h : k < l.length
          · rw [List.getElem?_append_left h]
          · rw [List.getElem?_append_right (by omega), List.getElem?_eq_none (l := l) (by omega), List.getElem?_replicate]
            split <;> rfl
        refine ⟨_, rfl, _, rfl, d0, d1, _, _, rfl, SqL.of h0, SqL.of h1, lc_walkV (wk_zip (K := K) (xs := (F 0).map V.int) (ys := (F 1).map V.int) (by rw [List.length_map, List.length_map, lF 0 (by omega), lF 1 (by omega)])) (fun i => .int (co (F 0) i + co (F 1) i)) (by rw [List.length_map, lF 0 (by omega)]; omega) ⟨SqL.of h0, SqL.of h1⟩
          (fun D3 i x H3 C hi it s3 hD3 ac k => ?_) fun D3 H3 s3 hD3 e3 => ?_⟩
        · obtain ⟨t3, x, y, rfl, ht3, hx, hy⟩ := it
          obtain ⟨rfl, _, _⟩ := int_at hx
          obtain ⟨rfl, _, _⟩ := int_at hy
          exact ⟨t3, _, rfl, SqT.of ht3, rfl, _, _, rfl, _, _, rfl, rfl, rfl, _, rfl, _, rfl, _, _, rfl, rfl, k _ (Same.refl _)⟩
        · rw [List.length_map, lF 0 (by omega)] at e3
          have eL : (List.range N).map (fun i => V.int (co (F 0) i + co (F 1) i)) = ((List.range N).map fun i => co (F 0) i + co (F 1) i).map V.int := by rw [List.map_map]; rfl
          rw [eL] at e3
          refine q _ D3 _ (s12.trans s3) (s12.free hD3) e3 (by rw [List.length_map, List.length_range]; exact eN) fun k => ?_
          by_cases h : k < N
          · have : co ((List.range N).map fun i => co (F 0) i + co (F 1) i) k = co (F 0) k + co (F 1) k := co_at (by rw [List.getElem?_map, List.getElem?_range h]; rfl)
            rw [this]
            show co (one ++ _) k + co (other ++ _) k = _
            rw [cF, cF]
          · rw [co_out (by rw [List.length_map, List.length_range]; omega), co_out (l := one) (by omega), co_out (l := other) (by omega)]
            rfl
end
end Kz
end
section
set_option Elab.async false
set_option linter.all false
set_option maxRecDepth 100000
set_option maxHeartbeats 4000000
/-! the series, 3: what a division leaves -/
namespace Kz
open PySem PySem.Spec PyProof.Rows L2 KzM
/-- // by any divisor but 0, below 2 ^ 9000 -/
def CDivWN (_ j : Int) : Prop := j ≠ 0 ∧ j.natAbs.log2 < 9000
theorem op_fdivWN {X : Cx} : OpR X (binaryOp .FloorDiv) (rI CDivWN fun i j => .int (i.fdiv j)) := opI fun _ _ _ _ _ _ _ hc q => floordiv_int hc.1 q (.inl (PyProof.noPylong_of_log2 hc.2))
theorem bits_wide {a b : Nat} {i j : Int} (ha : i.natAbs < 2 ^ a) (hb : j.natAbs < 2 ^ b) (h : a + b ≤ 900000) : CMulW i j :=
  wide_mul (a := a + 1) (b := b + 1) (Nat.lt_trans ha (Nat.pow_lt_pow_right (by decide) (by omega))) (Nat.lt_trans hb (Nat.pow_lt_pow_right (by decide) (by omega))) (by omega) (by omega) (by omega)
theorem bits_sub {a : Nat} {i j : Int} (h1 : i.natAbs < 2 ^ a) (h2 : j.natAbs < 2 ^ a) : (i - j).natAbs < 2 ^ (a + 1) := by
  rw [Nat.pow_succ]
  omega
def spLeftOver (K : PySem.W.Frag) : Sp := fun vs H Q _ => ∃ (a b : Addr) (one other : List Int) (X Y : Nat), vs = [.ref a, .ref b] ∧ SqL K H a (one.map V.int) ∧ SqL K H b (other.map V.int) ∧ other ≠ [] ∧ Trimd other ∧ Trimd one ∧ Bits X one ∧ Bits Y other ∧ one.length ≤ 100 ∧ other.length ≤ 100 ∧
  X + (one.length + 1 - other.length) * (Y + 1) ≤ 100000 ∧ Y ≤ 100000 ∧
  ∀ H' d (r : List Int), Same H H' → H d = none → H' d = some (.lst (r.map V.int)) → LeftRel one other r → r.length < other.length → Trimd r → Bits (X + (one.length + 1 - other.length) * (Y + 1)) r → Q (.ref d) H'
section
variable {P : Program} {w : World} {K : PySem.W.Frag} {mg : Str → Option Value} {base : Heap}
abbrev N_left_over : List Str := ["one", "other", "found", "here", "there", "k", "item"]
theorem sc_left_over : FnScope N_left_over ["one", "other"] (defScope sd_left_over) := ⟨rfl, rfl, rfl, by decide +kernel, rfl, by decide +kernel, by decide +kernel⟩
theorem f_left_over (D : DefAt K mg "left_over" sd_left_over) (T : Txt K mg) (f_trimmed : FnS P w K mg base CX0 1 "trimmed" ["row"] (spTrimmed K)) : FnS P w K mg base CX0 2 "left_over" ["one", "other"] (spLeftOver K) :=
  mkFn D sc_left_over (fun _ _ _ _ _ _ us hl => match us, hl with | [_, _], _ => rfl) (fun vs H Q E ⟨_, _, _, _, _, _, e, _⟩ => by rw [e]; rfl) fun cdv A outer s H vs Q E hr ⟨a, b, one, other, X, Y, e, ha, hb, ne, tb, ta, bx, by_, la, lb, hX, hY, q⟩ => by
  subst e
  have big : 20000 < sizeLine := by decide
  have lpos : 0 < other.length := List.length_pos_iff.mpr ne
  refine ⟨_, (pss_cons (ps_set (i := 2) sc_left_over.nd rfl (.inl rfl) (pe_callTy call_list_of (by rfl) T.list_ bo_list (pa_cons (pv 0) pa_nil)))
      (pss_cons (ps_while (passes_of rfl) (pt_cmpR op_ge (pe_callB call_len_seq (by rfl) T.len_ bo_len (pa_cons (pv 2) pa_nil)) (pe_callB call_len_seq (by rfl) T.len_ bo_len (pa_cons (pv 1) pa_nil)) (nomark _)) (pss_cons (ps_asg (pe_tup (pa_cons (pe_ix ix_list (pv 2) (pe_un un_neg pe_int) (fun _ _ => rfl)) (pa_cons (pe_ix ix_list (pv 1) (pe_un un_neg pe_int) (fun _ _ => rfl)) pa_nil))) (pg_tup rfl (pgs_cons (pg_name (i := 3) sc_left_over.nd rfl (.inl rfl)) (pgs_cons (pg_name (i := 4) sc_left_over.nd rfl (.inr rfl)) pgs_nil))))
      (pss_cons (ps_setLc (i := 2) (own := [("item", 6)]) (g := (gName 6)) rfl sc_left_over.nd rfl rfl (sw_true rfl rfl rfl (by decide +kernel)) (pi_list (pv 2)) (blkOk_by (N := N_left_over) (sc := defScope sd_left_over) (by decide +kernel)) (fun _ _ _ _ _ => (pg_name (i := 6) sc_left_over.nd rfl (.inl rfl))) (fun _ _ _ _ _ => pts_nil) (fun _ _ _ _ _ => (pe_op op_mulW (pv 6) (pv 4))))
      (pss_cons (ps_for (passes_of rfl) rfl (pi_enum (by rfl) T.enumerate_ (pa_cons (pv 1) pa_nil)) (pg_tup rfl (pgs_cons (pg_name (i := 5) sc_left_over.nd rfl (.inl rfl)) (pgs_cons (pg_name (i := 6) sc_left_over.nd rfl (.inl rfl)) pgs_nil))) (pss_one (ps_augS (pv 2) (pe_op op_add (pe_op op_sub (pe_callB call_len_seq (by rfl) T.len_ bo_len (pa_cons (pv 2) pa_nil)) (pe_callB call_len_seq (by rfl) T.len_ bo_len (pa_cons (pv 1) pa_nil))) (pv 5)) get_list (pe_op op_mulW (pv 6) (pv 3)) ip_sub set_list)))
      (pss_one (ps_set (i := 2) sc_left_over.nd rfl (.inl rfl) (pe_call f_trimmed.ok (hr.mono (by decide)) rfl f_trimmed.g f_trimmed.kp f_trimmed.b .nil pass0 (pa_cons (pv 2) pa_nil))))))))
      (pss_one (ps_ret (pv 2))))), ?_⟩
  refine ⟨_, rfl, a, _, rfl, .inl ha, fun d0 hd0 => ?_⟩
  refine while_own (fun σ H' => ∃ (d : Addr) (f : List Int) (s : Nat) (x3 x4 x5 x6 : Option V), σ = [some (.ref a), some (.ref b), some (.ref d), x3, x4, x5, x6] ∧ Same H H' ∧ H d = none ∧ H' d = some (.lst (f.map V.int)) ∧ LeftRel one other f ∧ Trimd f ∧ f.length + s ≤ one.length ∧ (s = 0 ∨ s + other.length ≤ one.length + 1) ∧ Bits (X + s * (Y + 1)) f)
    (fun σ H' => match σ with | [_, _, some (.ref d), _, _, _, _] => (match H' d with | some (.lst xs) => xs.length | _ => 0) | _ => 0)
    ⟨d0, one, 0, _, _, _, _, rfl, Same.new hd0, hd0, upd_same, left_refl _ _, ta, by omega, .inl rfl, by simpa using bx⟩ ?_
  rintro σ H1 ⟨d, f, s, x3, x4, x5, x6, rfl, s1, hd, hd1, rel, tf, ls, ls2, bf⟩
  have step : s + other.length ≤ one.length + 1 → X + s * (Y + 1) ≤ X + (one.length + 1 - other.length) * (Y + 1) := fun h => Nat.add_le_add_left (Nat.mul_le_mul_right _ (by omega)) _
  refine ⟨_, rfl, d, _, rfl, .inl (SqL.of hd1), _, rfl, b, _, rfl, .inl (s1.seq hb), _, _, rfl, rfl, _, rfl, ite2 (fun e => ?_) fun e => ?_⟩
  · have ge : other.length ≤ f.length := by
      have := of_decide_eq_true e
      rw [List.length_map, List.length_map] at this
      omega
    have nf : f ≠ [] := fun z => by
      rw [z, List.length_nil] at ge
      omega
    have bF : X + s * (Y + 1) + (Y + 1) ≤ X + (one.length + 1 - other.length) * (Y + 1) := by
      have : (s + 1) * (Y + 1) ≤ (one.length + 1 - other.length) * (Y + 1) := Nat.mul_le_mul_right _ (by omega)
      rw [Nat.add_mul, Nat.one_mul] at this
      omega
    refine ⟨_, whN, ?_⟩
    refine ⟨_, rfl, 1, rfl, d, _, -1, _, rfl, rfl, SqL.of hd1, map_last nf, _, rfl, 1, rfl, b, _, -1, _, rfl, rfl, s1.seq hb, map_last ne, (by show 2 ≤ sizeLine; decide), fun t ht => ?_⟩
    have s2 : Same H1 (upd H1 t (.tup [.int (co f (f.length - 1)), .int (co other (other.length - 1))])) := Same.new ht
    refine ⟨t, _, rfl, SqT.of upd_same, rfl, _, _, rfl, _, _, rfl, rfl, ?_⟩
    generalize hhe : co f (f.length - 1) = here at s2 ⊢
    generalize hth : co other (other.length - 1) = there at s2 ⊢
    have thnz : there ≠ 0 := by rw [← hth]; exact tb ne
    have bhe : here.natAbs < 2 ^ (X + s * (Y + 1)) := by rw [← hhe]; exact bf _
    have bth : there.natAbs < 2 ^ Y := by rw [← hth]; exact by_ _
    generalize upd H1 t (.tup [.int here, .int there]) = H2 at s2 ⊢
    have hd2 := s2 _ _ hd1
    -- found = [item * there for item in found]
    dsimp only
    refine seq1 (asg1 (lcL_V (K := K) (fun i => .int (co f i * there)) (fun R h => ⟨_, rfl, h⟩) (SqL.of hd2) (by rw [List.length_map]; omega) (fun D i x H' C hi hx s3 hD ac k => ?_) fun D H3 s3 hD e3 => ?_))
    · obtain ⟨rfl, _, _⟩ := int_at hx
      exact ⟨rfl, _, rfl, _, rfl, _, _, rfl, rfl, bits_wide (bf i) bth (by omega), k _ (Same.refl _)⟩
    rw [List.length_map] at e3
    have eg : (List.range f.length).map (fun i => V.int (co f i * there)) = ((List.range f.length).map fun i => co f i * there).map V.int := by rw [List.map_map]; rfl
    rw [eg] at e3
    have lg : ((List.range f.length).map fun i => co f i * there).length = f.length := by rw [List.length_map, List.length_range]
    have cg : ∀ n, co ((List.range f.length).map fun i => co f i * there) n = there * co f n := fun n => by
      by_cases h : n < f.length
      · rw [Int.mul_comm]
        exact co_at (by rw [List.getElem?_map, List.getElem?_range h]; rfl)
      · rw [co_out (by omega), co_out (l := f) (by omega), Int.mul_zero]
    generalize (List.range f.length).map (fun i => co f i * there) = g0 at e3 lg cg
    have s13 := (s1.trans s2).trans s3
    have hDH : H D = none := (s1.trans s2).free hD
    -- for k, item in enumerate(other)
    refine ⟨_, rfl, b, _, rfl, s13.seq hb, for_walk wk_enum (fun k σ H' => ∃ (g : List Int) (x5 x6 : Option V), σ = [some (.ref a), some (.ref b), some (.ref D), some (.int here), some (.int there), x5, x6] ∧ Same H H' ∧ H' D = some (.lst (g.map V.int)) ∧ g.length = f.length ∧ ∀ n, co g n = there * co f n - if f.length - other.length ≤ n then here * co (other.take k) (n - (f.length - other.length)) else 0)
      ⟨g0, _, _, rfl, s13, e3, lg, fun n => by rw [cg, show ∀ m, co (other.take 0) m = 0 from fun _ => rfl, Int.mul_zero]; simp⟩ (fun k σ H' hk ⟨_, _, _, _, s5, _⟩ => s5.seq hb) (fun k x σ H4 H5 hk ⟨g, x5, x6, eσ, s5, hg4, lg, gr⟩ s6 it => ?_) fun σ H4 ⟨g, x5, x6, eσ, s5, hg4, lg, gr⟩ => ?_⟩
    · subst eσ
      obtain ⟨t2, z2, rfl, ht2, hz2⟩ := it
      obtain ⟨rfl, hok, hk2⟩ := int_at hz2
      have s56 := s5.trans s6
      have hg5 := s6 _ _ hg4
      have eik : ((f.length : Int) - (other.length : Int) + (k : Int)) = ((f.length - other.length + k : Nat) : Int) := by omega
      have lt : f.length - other.length + k < g.length := by omega
      refine ⟨t2, _, rfl, SqT.of ht2, rfl, _, _, rfl, _, _, rfl, rfl, ?_⟩
      have eidx : V.int ((((g.map V.int).length : Nat) : Int) - (((other.map V.int).length : Nat) : Int) + (k : Int)) = V.int ((f.length - other.length + k : Nat) : Int) := by
        rw [List.length_map, List.length_map, lg, eik]
      refine ⟨_, rfl, _, rfl, D, _, rfl, .inl (SqL.of hg5), _, rfl, b, _, rfl, .inl (s56.seq hb), _, _, rfl, rfl, _, rfl, _, _, rfl, rfl, D, _, f.length - other.length + k, _, rfl, eidx, SqL.of hg5, map_at lt, _, rfl, _, rfl, _, _, rfl, rfl, bits_wide (by_ k) bhe (by omega), _, _, rfl, rfl, D, _, ((f.length - other.length + k : Nat) : Int), f.length - other.length + k, rfl, eidx, hg5, (by rw [List.length_map]; exact ixN_nat lt), ?_⟩
      refine ⟨g.set (f.length - other.length + k) (co g (f.length - other.length + k) - co other k * here), _, _, rfl, s56.put hDH, by rw [upd_same, List.map_set], by rw [List.length_set]; exact lg, fun n => ?_⟩
      rw [co_set lt, co_take_succ hok]
      unfold mono
      by_cases e : f.length - other.length + k = n
      · subst e
        rw [if_pos rfl, gr, if_pos (by omega), if_pos (by omega), if_pos (by omega), Int.mul_add, Int.mul_comm (co other k) here]
        omega
      · rw [if_neg e, gr]
        by_cases h : f.length - other.length ≤ n
        · rw [if_pos h, if_pos h, if_neg (by omega), Int.add_zero]
        · rw [if_neg h, if_neg h]
    · subst eσ
      rw [List.length_map, List.take_length] at gr
      refine ⟨_, rfl, D, g, rfl, .inl (SqL.of hg4), fun H6 d6 r s6 hd6 e6 tr => ?_⟩
      have gtop : co g (f.length - 1) = 0 := by
        rw [gr, if_pos (by omega), show f.length - 1 - (f.length - other.length) = other.length - 1 by omega, hth, hhe, Int.mul_comm]
        omega
      have rl : r.length < f.length := by
        have h1 := tr.len
        refine Decidable.byContradiction fun z => ?_
        have e : r.length = f.length := by omega
        have nr : r ≠ [] := fun q => by rw [q] at e; exact nf (List.eq_nil_of_length_eq_zero e.symm)
        have := tr.tr nr
        rw [tr.co, e, gtop] at this
        exact this rfl
      have bg : Bits (X + s * (Y + 1) + (Y + 1)) g := fun n => by
        rw [gr]
        have h1 : (there * co f n).natAbs < 2 ^ (X + s * (Y + 1) + Y) := by
          rw [Int.mul_comm]
          exact wide_lt (bf n) bth
        have h2 : (if f.length - other.length ≤ n then here * co other (n - (f.length - other.length)) else 0).natAbs < 2 ^ (X + s * (Y + 1) + Y) := by
          split
          · exact wide_lt bhe (by_ _)
          · exact Nat.pow_pos (by decide)
        exact bits_sub h1 h2
      refine ⟨⟨d6, r, s + 1, _, _, _, _, rfl, s5.trans s6, s5.free hd6, e6, left_step' rel thnz gr tr.co, tr.tr, by omega, .inr (by omega), ?_⟩, ?_⟩
      · refine Bits.mono (bg.trim tr) ?_
        rw [Nat.add_mul, Nat.one_mul]
        omega
      · show (match H6 d6 with | some (.lst xs) => xs.length | _ => 0) < (match H1 d with | some (.lst xs) => xs.length | _ => 0)
        rw [e6, hd1]
        show (r.map V.int).length < (f.map V.int).length
        rw [List.length_map, List.length_map]
        exact rl
  · have lt : f.length < other.length := by
      have : ¬ (((other.map V.int).length : Int) ≤ ((f.map V.int).length : Int)) := fun z => e (decide_eq_true z)
      rw [List.length_map, List.length_map] at this
      omega
    refine ⟨_, rfl, q _ d f s1 hd hd1 rel lt tf (Bits.mono bf ?_)⟩
    rcases ls2 with h | h
    · rw [h, Nat.zero_mul]
      omega
    · exact step h
end
end Kz
end
section
set_option Elab.async false
set_option linter.all false
set_option maxRecDepth 100000
set_option maxHeartbeats 4000000
/-! the series, 4: the common part -/
namespace Kz
open PySem PySem.Spec PyProof.Rows L2 KzM
def spCommonList (K : PySem.W.Frag) : Sp := fun vs H Q _ => ∃ (a b : Addr) (one other : List Int) (e : Int) (k0 : Nat), vs = [.ref a, .ref b] ∧ SqL K H a (one.map V.int) ∧ SqL K H b (other.map V.int) ∧ e * e = 1 ∧ (CopP e k0 (co one) (co other) ∨ CopP e k0 (co other) (co one)) ∧ one.length ≤ 6 ∧ other.length ≤ 6 ∧ Bits 9 one ∧ Bits 9 other ∧
  ∀ H' d (r : List Int), Same H H' → H d = none → H' d = some (.lst (r.map V.int)) → (∀ k, co r k = pw e k0 k) → r.length = k0 + 1 → Q (.ref d) H'
/-- a Euclid under way -/
structure Euc (e : Int) (k0 : Nat) (A B : Ser) (h t : List Int) : Prop where
  th : Trimd h
  tt : Trimd t
  nh : h ≠ []
  lh : h.length ≤ 6
  lt : t.length ≤ 6
  bt : Bits (FB t.length) t
  bh : (t.length < h.length ∧ Bits (FB h.length) h) ∨ Bits 9 h
  back : ∀ G : Ser, Div G (co h) → Div G (co t) → Div G A ∧ Div G B
  ch : Com (pw e k0) (co h)
  ct : Com (pw e k0) (co t)
theorem Euc.start {e : Int} {k0 : Nat} {one other h t : List Int} (th : TrimOf one h) (tt : TrimOf other t) (l1 : one.length ≤ 6) (l2 : other.length ≤ 6) (b1 : Bits 9 one) (b2 : Bits 9 other) (cp : CopP e k0 (co one) (co other) ∨ CopP e k0 (co other) (co one)) : Euc e k0 (co one) (co other) h t := by
  have ch : Com (pw e k0) (co one) ∧ Com (pw e k0) (co other) := cp.elim (fun c => c.com) fun c => ⟨c.com.2, c.com.1⟩
  have z : co one 0 = 1 := cp.elim (fun c => c.zero.1) fun c => c.zero.2
  have e1 : co h = co one := funext th.co
  have e2 : co t = co other := funext tt.co
  have l3 := th.len
  have l4 := tt.len
  refine ⟨th.tr, tt.tr, fun q => ?_, by omega, by omega, Bits.mono (b2.trim tt) (fb6 _), .inr (b1.trim th), fun G h1 h2 => ?_, ?_, ?_⟩
  · have := th.co 0
    rw [q, z] at this
    cases this
  · rw [e1] at h1
    rw [e2] at h2
    exact ⟨h1, h2⟩
  · rw [e1]
    exact ch.1
  · rw [e2]
    exact ch.2
/-- what the next division asks -/
theorem Euc.ask {e : Int} {k0 : Nat} {A B : Ser} {h t : List Int} (E : Euc e k0 A B h t) (nt : t ≠ []) : ∃ X, Bits X h ∧ X + (h.length + 1 - t.length) * (FB t.length + 1) ≤ FB (t.length - 1) := by
  have lp : 0 < t.length := List.length_pos_iff.mpr nt
  have l1 := E.lh
  have l2 := E.lt
  rcases E.bh with ⟨l, b⟩ | b
  · exact ⟨_, b, fb1 _ (List.mem_range.mpr (by omega)) _ (List.mem_range.mpr (by omega)) lp l⟩
  · exact ⟨9, b, fb2 _ (List.mem_range.mpr (by omega)) _ (List.mem_range.mpr (by omega)) lp⟩
theorem Euc.next {e : Int} {k0 : Nat} {A B : Ser} {h t r r' : List Int} {c : Int} {X : Nat} (E : Euc e k0 A B h t) (nt : t ≠ []) (hX : X ≤ FB (t.length - 1)) (rel : LeftRel h t r) (rl : r.length < t.length) (rt' : Trimd r') (rb : Bits X r') (rl' : r'.length = r.length) (hc : ∀ k, co r k = c * co r' k) (nz : r = [] ∨ c ≠ 0) : Euc e k0 A B t r' := by
  have l2 := E.lt
  have cr : Com (pw e k0) (co r) := com_step rel E.ch E.ct
  refine ⟨E.tt, rt', nt, l2, by omega, Bits.mono rb (Nat.le_trans hX (fb3 _ (List.mem_range.mpr (by omega)) _ (List.mem_range.mpr (by omega)) (by omega))), .inl ⟨by omega, E.bt⟩, fun G h1 h2 => E.back G (div_step rel h1 (Div.congr (fun k => (hc k).symm) (h2.mul c))) h1, E.ct, ?_⟩
  rcases nz with z | z
  · have : r' = [] := List.eq_nil_of_length_eq_zero (by rw [rl', z]; rfl)
    have e1 : co r' = co r := by rw [this, z]
    rw [e1]
    exact cr
  · exact com_down (pw_zero e k0) z hc cr
theorem Euc.fin {e : Int} (he : e * e = 1) {k0 : Nat} {A B : Ser} {h : List Int} (E : Euc e k0 A B h []) (cp : CopP e k0 A B ∨ CopP e k0 B A) : ∃ g : Int, g ≠ 0 ∧ (∀ k, co h k = g * pw e k0 k) ∧ h.length = k0 + 1 := by
  obtain ⟨d1, d2⟩ := E.back (co h) (Div.self _) (Div.zero _ fun k => rfl)
  obtain ⟨g, gz, eg⟩ := CopP.ends he cp (fin_co h) d1 d2 E.ch
  exact ⟨g, gz, eg, pw_len he gz eg E.th⟩
theorem fdiv_ok {l : List Int} {c : Int} {b : Nat} (hc : c ≠ 0) (hb : c.natAbs < 2 ^ b) (h9 : b ≤ 8999) (i : Int) : CDivWN i c := by
  have := PySem.Flt.log2_lt_of (Nat.succ_pos b) (Nat.lt_trans hb (Nat.pow_lt_pow_right (by decide) (Nat.lt_succ_self b)))
  exact ⟨hc, by omega⟩
section
variable {P : Program} {w : World} {K : PySem.W.Frag} {mg : Str → Option Value} {base : Heap}
abbrev N_common_list : List Str := ["one", "other", "here", "there", "many", "item"]
theorem sc_common_list : FnScope N_common_list ["one", "other"] (defScope sd_common_list) := ⟨rfl, rfl, rfl, by decide +kernel, rfl, by decide +kernel, by decide +kernel⟩
theorem f_common_list (D : DefAt K mg "common_list" sd_common_list) (T : Txt K mg) (f_trimmed : FnS P w K mg base CX0 1 "trimmed" ["row"] (spTrimmed K)) (f_left_over : FnS P w K mg base CX0 2 "left_over" ["one", "other"] (spLeftOver K)) (f_common_number : FnS P w K mg base CX0 1 "common_number" ["some"] (spCommonNumber K)) :
    FnS P w K mg base CX0 3 "common_list" ["one", "other"] (spCommonList K) :=
  mkFn D sc_common_list (fun _ _ _ _ _ _ us hl => match us, hl with | [_, _], _ => rfl) (fun vs H Q E ⟨_, _, _, _, _, _, e, _⟩ => by rw [e]; rfl) fun cdv A outer s H vs Q E hr ⟨a, b, one, other, e, k0, ev, ha, hb, he, cp, l1, l2, b1, b2, q⟩ => by
  subst ev
  have big : 20000 < sizeLine := by decide
  refine ⟨_, (pss_cons (ps_par (i := 2) (j := 3) rfl sc_common_list.nd rfl rfl (by decide) rfl rfl (pa_cons (pe_call f_trimmed.ok (hr.mono (by decide)) rfl f_trimmed.g f_trimmed.kp f_trimmed.b .nil pass0 (pa_cons (pv 0) pa_nil)) (pa_cons (pe_call f_trimmed.ok (hr.mono (by decide)) rfl f_trimmed.g f_trimmed.kp f_trimmed.b .nil pass0 (pa_cons (pv 1) pa_nil)) pa_nil)) (by rfl))
      (pss_cons (ps_while (passes_of rfl) (pt_cmpR (op_neD hr.units) (pv 3) (pe_lst pa_nil) (nomark _)) (pss_cons (ps_par (i := 2) (j := 3) rfl sc_common_list.nd rfl rfl (by decide) rfl rfl (pa_cons (pv 3) (pa_cons (pe_call f_left_over.ok (hr.mono (by decide)) rfl f_left_over.g f_left_over.kp f_left_over.b .nil pass0 (pa_cons (pv 2) (pa_cons (pv 3) pa_nil))) pa_nil)) (by rfl))
      (pss_cons (ps_set (i := 4) sc_common_list.nd rfl (.inr rfl) (pe_call f_common_number.ok (hr.mono (by decide)) rfl f_common_number.g f_common_number.kp f_common_number.b .nil pass0 (pa_cons (pv 3) pa_nil)))
      (pss_one (ps_setLc (i := 3) (own := [("item", 5)]) (g := (gName 5)) rfl sc_common_list.nd rfl rfl (sw_true rfl rfl rfl (by decide +kernel)) (pi_list (pv 3)) (blkOk_by (N := N_common_list) (sc := defScope sd_common_list) (by decide +kernel)) (fun _ _ _ _ _ => (pg_name (i := 5) sc_common_list.nd rfl (.inl rfl))) (fun _ _ _ _ _ => pts_nil) (fun _ _ _ _ _ => (pe_op op_fdivWN (pv 5) (pv 4))))))))
      (pss_cons (ps_set (i := 4) sc_common_list.nd rfl (.inr rfl) (pe_ifExp (pt_cmpR op_gt (pe_ix ix_list (pv 2) pe_int (fun _ _ => rfl)) pe_int (nomark _)) (pe_call f_common_number.ok (hr.mono (by decide)) rfl f_common_number.g f_common_number.kp f_common_number.b .nil pass0 (pa_cons (pv 2) pa_nil)) (pe_op op_sub pe_int (pe_call f_common_number.ok (hr.mono (by decide)) rfl f_common_number.g f_common_number.kp f_common_number.b .nil pass0 (pa_cons (pv 2) pa_nil)))))
      (pss_one (ps_ret (pe_lc (own := [("item", 5)]) (g := (gName 5)) rfl sc_common_list.nd (pi_list (pv 2)) (blkOk_by (N := N_common_list) (sc := defScope sd_common_list) (by decide +kernel)) (fun _ _ _ _ _ => (pg_name (i := 5) sc_common_list.nd rfl (.inl rfl))) (fun _ _ _ _ _ => pts_nil) (fun _ _ _ _ _ => (pe_op op_fdivWN (pv 5) (pv 4))))))))), ?_⟩
  refine ⟨_, rfl, a, one, rfl, .inl ha, fun H1 d1 h0 s1 hd1 e1 t1 => ?_⟩
  refine ⟨_, rfl, b, other, rfl, .inl (s1.seq hb), fun H2 d2 t0 s2 hd2 e2 t2 => ?_⟩
  refine ⟨_, _, rfl, ?_⟩
  refine seq1 ⟨fun m σ H' => ∃ (dh dt : Addr) (h t : List Int) (x4 x5 : Option V), m = t.length ∧ σ = [some (.ref a), some (.ref b), some (.ref dh), some (.ref dt), x4, x5] ∧ Same H H' ∧ H' dh = some (.lst (h.map V.int)) ∧ H' dt = some (.lst (t.map V.int)) ∧ Euc e k0 (co one) (co other) h t,
    ⟨_, d1, d2, h0, t0, _, _, rfl, rfl, s1.trans s2, s2 _ _ e1, e2, Euc.start t1 t2 l1 l2 b1 b2 cp⟩, ?_⟩
  rintro m σ H3 ⟨dh, dt, h, t, x4, x5, rfl, rfl, s3, eh, et, E⟩
  refine ⟨_, rfl, Nat.zero_le _, fun o ho => ne_nilI (ns := t) (SqL.of (Same.new ho _ _ et)) (SqL.of upd_same) ⟨_, rfl, ?_⟩⟩
  have s4 : Same H3 (upd H3 o (.lst [])) := Same.new ho
  generalize upd H3 o (.lst []) = H4 at s4 ⊢
  have s04 := s3.trans s4
  have eh4 := s4 _ _ eh
  have et4 := s4 _ _ et
  by_cases nt : t = []
  · subst nt
    obtain ⟨g, gz, eg, lh⟩ := E.fin he cp
    have h0g : co h 0 = g := by rw [eg, pw_zero, Int.mul_one]
    have lp : 0 < h.length := by omega
    have gdv : ∀ k, g ∣ co h k := fun k => ⟨_, eg k⟩
    have egc : ((gcdTo h : Nat) : Int) = (g.natAbs : Int) := by
      have u1 := gcdTo_le (l := h) (k := 0) (by rw [h0g]; exact gz)
      have u2 := dvd_gcdTo gdv
      have u3 := Int.natAbs_dvd_natAbs.mpr u2
      rw [Int.natAbs_natCast] at u3
      have u4 := Nat.le_of_dvd (Nat.pos_of_ne_zero (gcdTo_nz (k := 0) (by rw [h0g]; exact gz))) u3
      rw [h0g] at u1
      omega
    have bg : g.natAbs < 2 ^ 3259 := by
      rw [← h0g]
      rcases E.bh with ⟨_, b⟩ | b
      · exact Nat.lt_of_lt_of_le (b 0) (Nat.pow_le_pow_right (by decide) (fb5 lp))
      · exact Nat.lt_of_lt_of_le (b 0) (Nat.pow_le_pow_right (by decide) (by decide))
    -- the end of it, once many is g
    have fin : ∀ H5 x5, Same H4 H5 → tRet (tLc (iList K (tVar 2)) (gName 5) tYes (tOp (rI CDivWN fun i j => .int (i.fdiv j)) (tVar 5) (tVar 4)) [5]) { nx := fun _ H' => Q .non H', rt := Q } [some (.ref a), some (.ref b), some (.ref dh), some (.ref dt), some (.int g), x5] H5 := fun H5 x5 s5 => by
      have s05 := s04.trans s5
      refine ret1 (lcL_V (K := K) (fun i => .int ((co h i).fdiv g)) (fun R h => ⟨_, rfl, h⟩) (SqL.of (s5 _ _ eh4)) (by rw [List.length_map]; have := E.lh; omega) (fun D i x H' C hi hx s6 hD ac k => ?_) fun D H6 s6 hD e6 => ?_)
      · obtain ⟨rfl, _, _⟩ := int_at hx
        exact ⟨rfl, _, rfl, _, rfl, _, _, rfl, rfl, fdiv_ok (l := h) gz bg (by decide) _, k _ (Same.refl _)⟩
      · have ed : (List.range (h.map V.int).length).map (fun i => V.int ((co h i).fdiv g)) = (divL h g).map V.int := by
          unfold divL
          rw [List.length_map, List.map_map]
          rfl
        rw [ed] at e6
        refine q _ D _ (s05.trans s6) (s05.free hD) e6 (fun k => ?_) (by rw [divL_len]; exact lh)
        have := divL_co gz gdv k
        rw [eg] at this
        exact Int.eq_of_mul_eq_mul_left gz this
    rw [decide_eq_true rfl]
    refine ⟨_, rfl, dh, _, 0, _, rfl, rfl, SqL.of eh4, atI_nat (j := 0) (map_at lp), _, _, rfl, rfl, _, rfl, ?_⟩
    rw [h0g]
    by_cases gp : 0 < g
    · rw [decide_eq_true gp]
      refine ⟨_, rfl, dh, h, rfl, SqL.of eh4, fun H5 s5 => ?_⟩
      have : ((gcdTo h : Nat) : Int) = g := by omega
      rw [this]
      exact fin H5 x5 s5
    · rw [decide_eq_false gp]
      refine ⟨_, rfl, dh, h, rfl, SqL.of eh4, fun H5 s5 => ⟨_, _, rfl, rfl, ?_⟩⟩
      have : (0 : Int) - ((gcdTo h : Nat) : Int) = g := by omega
      show gName 4 (V.int ((0 : Int) - ((gcdTo h : Nat) : Int))) _ _ _
      rw [this]
      exact fin H5 x5 s5
  · rw [decide_eq_false nt]
    refine ⟨_, fun σ' H' h => h, ?_⟩
    obtain ⟨X, bX, hX⟩ := E.ask nt
    have f0 := fb4 (t.length - 1)
    have f1 := fb5 (List.length_pos_iff.mpr nt)
    have l3 := E.lh
    have l4 := E.lt
    refine ⟨_, rfl, _, rfl, _, rfl, dh, dt, h, t, X, FB t.length, rfl, SqL.of eh4, SqL.of et4, nt, E.tt, E.th, bX, E.bt, by omega, by omega, by omega, by omega, fun H5 d5 r s5 hd5 e5 rel rl tr br => ?_⟩
    refine ⟨_, _, rfl, ?_⟩
    refine ⟨_, rfl, d5, r, rfl, SqL.of e5, fun H6 s6 => ?_⟩
    have e6 := s6 _ _ e5
    dsimp only
    refine asg1 (lcL_V (K := K) (fun i => .int ((co r i).fdiv ((gcdTo r : Nat) : Int))) (fun R h => ⟨_, rfl, h⟩) (SqL.of e6) (by rw [List.length_map]; omega) (fun D i x H' C hi hx s7 hD ac k => ?_) fun D H7 s7 hD e7 => ?_)
    · obtain ⟨rfl, _, hi2⟩ := int_at hx
      have nr : r ≠ [] := fun z => by rw [z] at hi2; simp at hi2
      have gz := gcdTo_nz (tr nr)
      have gb : ((gcdTo r : Nat) : Int).natAbs < 2 ^ 3259 := by
        rw [Int.natAbs_natCast]
        refine Nat.lt_of_le_of_lt (gcdTo_le (tr nr)) (Nat.lt_of_lt_of_le (br _) (Nat.pow_le_pow_right (by decide) ?_))
        exact Nat.le_trans hX (fb5 (by have := List.length_pos_iff.mpr nr; omega))
      exact ⟨rfl, _, rfl, _, rfl, _, _, rfl, rfl, fdiv_ok (l := r) (by omega) gb (by decide) _, k _ (Same.refl _)⟩
    · have ed : (List.range (r.map V.int).length).map (fun i => V.int ((co r i).fdiv ((gcdTo r : Nat) : Int))) = (divL r ((gcdTo r : Nat) : Int)).map V.int := by
        unfold divL
        rw [List.length_map, List.map_map]
        rfl
      rw [ed] at e7
      have s07 := ((s04.trans s5).trans s6).trans s7
      refine ⟨_, by rw [divL_len]; exact rl, dt, D, t, divL r ((gcdTo r : Nat) : Int), _, _, rfl, rfl, s07, s7 _ _ (s6 _ _ (s5 _ _ et4)), e7, ?_⟩
      by_cases nr : r = []
      · subst nr
        exact E.next nt hX rel rl (fun z => absurd rfl z) br rfl (fun k => by show (0 : Int) = ((gcdTo [] : Nat) : Int) * 0; simp) (.inl rfl)
      · have gz : ((gcdTo r : Nat) : Int) ≠ 0 := by
          have := gcdTo_nz (tr nr)
          omega
        exact E.next nt hX rel rl (divL_trim gz (gcdTo_dvd r) tr) (divL_bits gz (gcdTo_dvd r) br) (divL_len _ _) (fun k => (divL_co gz (gcdTo_dvd r) k).symm) (.inr gz)
end
end Kz
end
section
set_option Elab.async false
set_option linter.all false
set_option maxRecDepth 100000
set_option maxHeartbeats 4000000
/-! the series, 5: the least fraction -/
namespace Kz
open PySem PySem.Spec PyProof.Rows L2 KzM
/-- a fraction as a pair of tuples -/
def FracAt (K : PySem.W.Frag) (H : Hp) (t : Addr) (r1 r2 : List Int) : Prop := ∃ t0 t1, SqT K H t [.ref t0, .ref t1] ∧ SqT K H t0 (r1.map V.int) ∧ SqT K H t1 (r2.map V.int)
theorem FracAt.mono {K : PySem.W.Frag} {H H' : Hp} {t : Addr} {r1 r2 : List Int} (s : Same H H') (h : FracAt K H t r1 r2) : FracAt K H' t r1 r2 := by
  obtain ⟨t0, t1, h1, h2, h3⟩ := h
  exact ⟨t0, t1, s.seqT h1, s.seqT h2, s.seqT h3⟩
/-- the least fraction of A over B -/
structure Least (e : Int) (k0 : Nat) (over below r1 r2 : List Int) : Prop where
  c1 : ∀ k, co over k = conv (pw e k0) (co r1) k
  c2 : ∀ k, co below k = conv (pw e k0) (co r2) k
  t1 : Trimd r1
  t2 : Trimd r2
  l1 : r1.length ≤ over.length
  l2 : r2.length ≤ below.length
  z1 : co r1 0 = 1
  z2 : co r2 0 = 1
  cp : CopP e k0 (co over) (co below) ∨ CopP e k0 (co below) (co over)
def spLeast (K : PySem.W.Frag) : Sp := fun vs H Q _ => ∃ (a b : Addr) (over below : List Int) (e : Int) (k0 : Nat), vs = [.ref a, .ref b] ∧ SqL K H a (over.map V.int) ∧ SqL K H b (below.map V.int) ∧ e * e = 1 ∧ k0 ≤ 10 ∧ (CopP e k0 (co over) (co below) ∨ CopP e k0 (co below) (co over)) ∧ over.length ≤ 6 ∧ below.length ≤ 6 ∧ Bits 9 over ∧ Bits 9 below ∧
  ∀ H' t r1 r2, Same H H' → FracAt K H' t r1 r2 → Least e k0 over below r1 r2 → Q (.ref t) H'
theorem cop_quot {e : Int} {K : Nat} {A B : Ser} (h : CopP e K A B ∨ CopP e K B A) : ∃ (x y : Ser) (m1 m2 : Nat), Fin_ m1 x ∧ Fin_ m2 y ∧ x 0 = 1 ∧ y 0 = 1 ∧ (∀ k, A k = conv (pw e K) x k) ∧ ∀ k, B k = conv (pw e K) y k := by
  rcases h with ⟨j, b, B', h1, h2, h3, _, h5⟩ | ⟨j, b, B', h1, h2, h3, _, h5⟩
  · exact ⟨pw e j, B', j, b, fin_pw e j, h3, pw_zero e j, h5, fun k => by rw [h1, pw_add], h2⟩
  · exact ⟨B', pw e j, b, j, h3, fin_pw e j, h5, pw_zero e j, h2, fun k => by rw [h1, pw_add]⟩
theorem trim_cop {e : Int} {K : Nat} {l1 l2 r1 r2 : List Int} (t1 : TrimOf l1 r1) (t2 : TrimOf l2 r2) (h : CopP e K (co l1) (co l2) ∨ CopP e K (co l2) (co l1)) : CopP e K (co r1) (co r2) ∨ CopP e K (co r2) (co r1) := by
  have e1 : co r1 = co l1 := funext t1.co
  have e2 : co r2 = co l2 := funext t2.co
  rw [e1, e2]
  exact h
section
variable {P : Program} {w : World} {K : PySem.W.Frag} {mg : Str → Option Value} {base : Heap}
abbrev N_least_fraction : List Str := ["over", "below", "top", "low", "part", "most", "found", "row"]
theorem sc_least_fraction : FnScope N_least_fraction ["over", "below"] (defScope sd_least_fraction) := ⟨rfl, rfl, rfl, by decide +kernel, rfl, by decide +kernel, by decide +kernel⟩
theorem f_least_fraction (D : DefAt K mg "least_fraction" sd_least_fraction) (T : Txt K mg) (f_trimmed : FnS P w K mg base CX0 1 "trimmed" ["row"] (spTrimmed K)) (f_common_list : FnS P w K mg base CX0 3 "common_list" ["one", "other"] (spCommonList K)) (f_unrolled_to : FnS P w K mg base CX0 1 "unrolled_to" ["over", "below", "most"] (spUnrolled K)) :
    FnS P w K mg base CX0 4 "least_fraction" ["over", "below"] (spLeast K) :=
  mkFn D sc_least_fraction (fun _ _ _ _ _ _ us hl => match us, hl with | [_, _], _ => rfl) (fun vs H Q E ⟨_, _, _, _, _, _, e, _⟩ => by rw [e]; rfl) fun cdv A outer s H vs Q E hr ⟨a, b, over, below, e, k0, ev, ha, hb, he, hk, cp, l1, l2, b1, b2, q⟩ => by
  subst ev
  have big : 20000 < sizeLine := by decide
  refine ⟨_, (pss_cons (ps_par (i := 2) (j := 3) rfl sc_least_fraction.nd rfl rfl (by decide) rfl rfl (pa_cons (pe_call f_trimmed.ok (hr.mono (by decide)) rfl f_trimmed.g f_trimmed.kp f_trimmed.b .nil pass0 (pa_cons (pv 0) pa_nil)) (pa_cons (pe_call f_trimmed.ok (hr.mono (by decide)) rfl f_trimmed.g f_trimmed.kp f_trimmed.b .nil pass0 (pa_cons (pv 1) pa_nil)) pa_nil)) (by rfl))
      (pss_cons (ps_set (i := 4) sc_least_fraction.nd rfl (.inr rfl) (pe_call f_common_list.ok (hr.mono (by decide)) rfl f_common_list.g f_common_list.kp f_common_list.b .nil pass0 (pa_cons (pv 2) (pa_cons (pv 3) pa_nil))))
      (pss_cons (ps_set (i := 5) sc_least_fraction.nd rfl (.inr rfl) (pe_op op_sub (pe_callB call_len_seq (by rfl) T.len_ bo_len (pa_cons (pv 4) pa_nil)) pe_int))
      (pss_cons (ps_setLc (i := 6) (own := [("row", 7)]) (g := (gName 7)) rfl sc_least_fraction.nd rfl rfl (sw_true rfl rfl rfl (by decide +kernel)) (pi_tup (pe_tup (pa_cons (pv 2) (pa_cons (pv 3) pa_nil)))) (blkOk_by (N := N_least_fraction) (sc := defScope sd_least_fraction) (by decide +kernel)) (fun _ _ _ _ _ => (pg_name (i := 7) sc_least_fraction.nd rfl (.inl rfl))) (fun _ _ _ _ _ => pts_nil) (fun _ _ _ _ _ => (pe_call f_unrolled_to.ok (hr.mono (by decide)) rfl f_unrolled_to.g f_unrolled_to.kp f_unrolled_to.b .nil pass0 (pa_cons (pv 7) (pa_cons (pv 4) (pa_cons (pe_op op_sub (pe_op op_sub (pe_callB (call_len_seq : CallR _ _ (lenR K)) (by rfl) T.len_ bo_len (pa_cons (pv 7) pa_nil)) pe_int) (pv 5)) pa_nil))))))
      (pss_one (ps_ret (pe_tup (pa_cons (pe_callTy call_tuple_of (by rfl) T.tuple_ bo_tuple (pa_cons (pe_ix ix_list (pv 6) pe_int (fun _ _ => rfl)) pa_nil)) (pa_cons (pe_callTy call_tuple_of (by rfl) T.tuple_ bo_tuple (pa_cons (pe_ix ix_list (pv 6) pe_int (fun _ _ => rfl)) pa_nil)) pa_nil))))))))), ?_⟩
  refine ⟨_, rfl, a, over, rfl, .inl ha, fun H1 d1 top s1 hd1 e1 t1 => ?_⟩
  refine ⟨_, rfl, b, below, rfl, .inl (s1.seq hb), fun H2 d2 low s2 hd2 e2 t2 => ?_⟩
  refine ⟨_, _, rfl, ?_⟩
  have lt1 := t1.len
  have lt2 := t2.len
  have cpt := trim_cop t1 t2 cp
  have e12 := s2 _ _ e1
  refine ⟨_, rfl, _, rfl, d1, d2, top, low, e, k0, rfl, SqL.of e12, SqL.of e2, he, cpt, by omega, by omega, b1.trim t1, b2.trim t2, fun H3 d3 part s3 hd3 e3 cpart lpart => ?_⟩
  refine ⟨_, rfl, d3, _, rfl, .inl (SqL.of e3), _, _, rfl, rfl, ?_⟩
  -- the two unrolled
  obtain ⟨x, y, m1, m2, fx, fy, x0, y0, ex, ey⟩ := cop_quot cpt
  obtain ⟨a1, la1, fa1, xa1⟩ := quot_len he t1.tr fx (by rw [x0]; decide) ex
  obtain ⟨a2, la2, fa2, xa2⟩ := quot_len he t2.tr fy (by rw [y0]; decide) ey
  have bpart : Bits 60 part := fun k => by
    rw [cpart]
    exact Nat.lt_of_le_of_lt (pw_bits he k0 k) (Nat.pow_lt_pow_right (by decide) (by omega))
  refine ⟨_, rfl, _, rfl, (by show 2 ≤ sizeLine; decide), fun t ht => ?_⟩
  have s4 : Same H3 (upd H3 t (.tup [.ref d1, .ref d2])) := Same.new ht
  refine ⟨t, rfl, ⟨_, SqT.of upd_same⟩, lc_walk (wk_tup (K := K) (xs := [V.ref d1, V.ref d2])) (fun _ => true) (fun D i y' H => ∃ (d : Addr) (r : List Int), y' = .ref d ∧ d ≠ D ∧ H d = some (.lst (r.map V.int)) ∧ (if i = 0 then (∀ k, co r k = x k) ∧ Trimd r ∧ r.length ≤ top.length else (∀ k, co r k = y k) ∧ Trimd r ∧ r.length ≤ low.length)) (fun D i y H1 H2 b ⟨d, r, e1, n, h, z⟩ => ⟨d, r, e1, n, b _ _ n h, z⟩) (by show 2 < sizeLine; decide) (SqT.of upd_same)
    (fun DD i v H' C N' hi it s5 hDD ac kC kN' => ?_) fun DD H' ys s5 hDD e5 r5 => ?_⟩
  · obtain ⟨acc, hacc⟩ := ac
    have s35 := s4.trans s5
    have row : ∃ (ad : Addr) (l : List Int) (aa : Nat) (z : Ser), v = .ref ad ∧ SqL K H' ad (l.map V.int) ∧ l.length = k0 + aa + 1 ∧ l.length ≤ 6 ∧ Fin_ aa z ∧ z aa ≠ 0 ∧ (∀ k, co l k = conv (pw e k0) z k) ∧ ∀ r : List Int, (∀ k, co r k = z k) → Trimd r → r.length ≤ l.length → (if i = 0 then (∀ k, co r k = x k) ∧ Trimd r ∧ r.length ≤ top.length else (∀ k, co r k = y k) ∧ Trimd r ∧ r.length ≤ low.length) := by
      have it : ([V.ref d1, V.ref d2])[i]? = some v := it
      have hi : i < 2 := hi
      by_cases e0 : i = 0
      · subst e0
        exact ⟨d1, top, a1, x, (Option.some.inj it).symm, SqL.of (s35 _ _ (s3 _ _ e12)), la1, by omega, fa1, xa1, ex, fun r h1 h2 h3 => by rw [if_pos rfl]; exact ⟨h1, h2, h3⟩⟩
      · have : i = 1 := by omega
        subst this
        exact ⟨d2, low, a2, y, (Option.some.inj it).symm, SqL.of (s35 _ _ (s3 _ _ e2)), la2, by omega, fa2, xa2, ey, fun r h1 h2 h3 => by rw [if_neg (by decide)]; exact ⟨h1, h2, h3⟩⟩
    obtain ⟨ad, l, aa, z, rfl, hl, la, l6, fz, za, ez, fin⟩ := row
    refine ⟨rfl, _, rfl, _, rfl, _, rfl, ad, _, rfl, .inl hl, _, _, rfl, rfl, _, rfl, _, _, rfl, rfl, ad, d3, l, part, aa, ?_, .inl hl, .inl (SqL.of (s35 _ _ e3)), by rw [cpart, pw_zero], bpart, by omega, by omega, fun H6 d6 r s6 hd6 e6 lr hr6 => ?_⟩
    · show [V.ref ad, V.ref d3, V.int ((((l.map V.int).length : Nat) : Int) - 1 - ((((part.map V.int).length : Nat) : Int) - 1))] = _
      rw [List.length_map, List.length_map, lpart, show ((l.length : Int) - 1 - (((k0 + 1 : Nat) : Int) - 1)) = (aa : Int) by omega]
    · obtain ⟨q1, q2⟩ := quot_is he la fz za ez cpart lr hr6
      exact kC _ _ rfl s6 ⟨d6, r, rfl, ne_of_none' hacc hd6, e6, fin r q1 q2 (by omega)⟩
  · have r7 : Paired (fun i y' => ∃ (d : Addr) (r : List Int), y' = V.ref d ∧ d ≠ DD ∧ H' d = some (.lst (r.map V.int)) ∧ (if i = 0 then (∀ k, co r k = x k) ∧ Trimd r ∧ r.length ≤ top.length else (∀ k, co r k = y k) ∧ Trimd r ∧ r.length ≤ low.length)) [0, 1] ys := r5
    clear r5
    cases r7 with
    | cons q0 r8 =>
      cases r8 with
      | cons q1 r9 =>
        cases r9
        obtain ⟨f0, r1, rfl, n0, h0, c0⟩ := q0
        obtain ⟨f1, r2, rfl, n1, h1, c1⟩ := q1
        rw [if_pos rfl] at c0
        rw [if_neg (by decide)] at c1
        have sall := (((s1.trans s2).trans s3).trans s4).trans s5
        refine ⟨_, rfl, DD, _, 0, _, rfl, rfl, SqL.of e5, atI_nat (j := 0) rfl, f0, _, rfl, .inl ⟨SqL.of h0, fun g0 hg0 => ?_⟩⟩
        have s6 : Same H' (upd H' g0 (.tup (r1.map V.int))) := Same.new hg0
        refine ⟨_, rfl, DD, _, 1, _, rfl, rfl, SqL.of (s6 _ _ e5), atI_nat (j := 1) rfl, f1, _, rfl, .inl ⟨SqL.of (s6 _ _ h1), fun g1 hg1 => ⟨(by show 2 ≤ sizeLine; decide), fun g2 hg2 => ?_⟩⟩⟩
        have s7 : Same (upd H' g0 (.tup (r1.map V.int))) (upd (upd H' g0 (.tup (r1.map V.int))) g1 (.tup (r2.map V.int))) := Same.new hg1
        have s8 := Same.new (o := .tup [.ref g0, .ref g1]) hg2
        refine q _ g2 r1 r2 (((sall.trans s6).trans s7).trans s8) ⟨g0, g1, SqT.of upd_same, SqT.of (s8 _ _ (s7 _ _ upd_same)), SqT.of (s8 _ _ upd_same)⟩ ?_
        exact ⟨fun k => by rw [← t1.co, ex]; exact conv_congrR _ (fun k => (c0.1 k).symm) k, fun k => by rw [← t2.co, ey]; exact conv_congrR _ (fun k => (c1.1 k).symm) k, c0.2.1, c1.2.1, by omega, by omega, by rw [c0.1, x0], by rw [c1.1, y0], cp⟩
end
end Kz
end
section
set_option Elab.async false
set_option linter.all false
set_option maxRecDepth 100000
set_option maxHeartbeats 4000000
/-! powers of a short list -/
namespace Kz
open PySem PySem.Spec PyProof.Rows L2 KzM
def pwr (f : Ser) : Nat → Ser
  | 0 => one
  | m + 1 => conv (pwr f m) f
theorem conv_two (f : Ser) (row : List Int) (h2 : row.length = 2) (n : Nat) : conv f (co row) (n + 1) = f (n + 1) * co row 0 + f n * co row 1 := by
  have z : ∀ k, 2 ≤ k → co row k = 0 := fun k hk => co_out (by omega)
  rw [conv_right]
  cases n with
  | zero =>
    show f 0 * co row 1 + f 1 * co row 0 = f 1 * co row 0 + f 0 * co row 1
    omega
  | succ n =>
    rw [conv_right]
    have : conv f (sh (sh (co row))) n = 0 := by
      rw [conv_comm]
      exact conv_zeroL f (fun k => z (k + 2) (by omega)) n
    rw [this]
    show 0 + f (n + 1) * co row 1 + f (n + 2) * co row 0 = f (n + 2) * co row 0 + f (n + 1) * co row 1
    omega
theorem abs_small {x c : Int} {b : Nat} (hx : x.natAbs ≤ b) (hc : c.natAbs ≤ 1) : (x * c).natAbs ≤ b := by
  rw [Int.natAbs_mul]
  exact Nat.le_trans (Nat.mul_le_mul_left _ hc) (by omega)
theorem pwr_bits {row : List Int} (h2 : row.length = 2) (b0 : (co row 0).natAbs ≤ 1) (b1 : (co row 1).natAbs ≤ 1) : ∀ m k, (pwr (co row) m k).natAbs ≤ 2 ^ m
  | 0, k => by
    show (if k = 0 then (1 : Int) else 0).natAbs ≤ 1
    by_cases h : k = 0
    · rw [if_pos h]; decide
    · rw [if_neg h]; decide
  | m + 1, 0 => by
    show (pwr (co row) m 0 * co row 0).natAbs ≤ _
    have := abs_small (pwr_bits h2 b0 b1 m 0) b0
    rw [Nat.pow_succ]
    omega
  | m + 1, k + 1 => by
    show (conv (pwr (co row) m) (co row) (k + 1)).natAbs ≤ _
    rw [conv_two _ row h2, Nat.pow_succ]
    have h3 := abs_small (pwr_bits h2 b0 b1 m (k + 1)) b0
    have h4 := abs_small (pwr_bits h2 b0 b1 m k) b1
    have := Int.natAbs_add_le (pwr (co row) m (k + 1) * co row 0) (pwr (co row) m k * co row 1)
    omega
def spListPower (K : PySem.W.Frag) : Sp := fun vs H Q _ => ∃ (a : Addr) (row : List Int) (m : Nat), vs = [.ref a, .int (m : Nat)] ∧ SqL K H a (row.map V.int) ∧ row.length = 2 ∧ (co row 0).natAbs ≤ 1 ∧ (co row 1).natAbs ≤ 1 ∧ m ≤ 20 ∧
  ∀ H' d (r : List Int), Same H H' → H d = none → H' d = some (.lst (r.map V.int)) → r.length = m + 1 → (∀ k, co r k = pwr (co row) m k) → Q (.ref d) H'
section
variable {P : Program} {w : World} {K : PySem.W.Frag} {mg : Str → Option Value} {base : Heap}
abbrev N_list_power : List Str := ["row", "many", "found", "lap"]
theorem sc_list_power : FnScope N_list_power ["row", "many"] (defScope sd_list_power) := ⟨rfl, rfl, rfl, by decide +kernel, rfl, by decide +kernel, by decide +kernel⟩
theorem f_list_power (D : DefAt K mg "list_power" sd_list_power) (T : Txt K mg) (f_products_joined : FnS P w K mg base CX0 1 "products_joined" ["one", "other"] (spProducts K)) : FnS P w K mg base CX0 2 "list_power" ["row", "many"] (spListPower K) :=
  mkFn D sc_list_power (fun _ _ _ _ _ _ us hl => match us, hl with | [_, _], _ => rfl) (fun vs H Q E ⟨_, _, _, e, _⟩ => by rw [e]; rfl) fun cdv A outer s H vs Q E hr ⟨a, row, m, e, ha, h2, b0, b1, hm, q⟩ => by
  subst e
  refine ⟨_, (pss_cons (ps_set (i := 2) sc_list_power.nd rfl (.inl rfl) (pe_lst (pa_cons pe_int pa_nil)))
      (pss_cons (ps_for (passes_of rfl) rfl (pi_range1 rfl T.range_ (pa_cons (pv 1) pa_nil)) (pg_name (i := 3) sc_list_power.nd rfl (.inl rfl)) (pss_one (ps_set (i := 2) sc_list_power.nd rfl (.inl rfl) (pe_call f_products_joined.ok (hr.mono (by decide)) rfl f_products_joined.g f_products_joined.kp f_products_joined.b .nil pass0 (pa_cons (pv 2) (pa_cons (pv 0) pa_nil))))))
      (pss_one (ps_ret (pv 2))))), ?_⟩
  refine seq1 (asg1 ⟨(by show 1 ≤ sizeLine; decide), fun d0 hd0 => ?_⟩)
  dsimp only
  refine seq1 ⟨_, rfl, (m : Nat), rfl, by omega, by omega, ?_⟩
  refine for_walk (wk_range (n := m)) (fun i σ H' => ∃ (d : Addr) (x3 : Option V) (r : List Int), σ = [some (.ref a), some (.int (m : Nat)), some (.ref d), x3] ∧ Same H H' ∧ H d = none ∧ H' d = some (.lst (r.map V.int)) ∧ r.length = i + 1 ∧ ∀ k, co r k = pwr (co row) i k)
    ?_ (fun _ _ _ _ _ => True.intro) (fun i x σ H3 H4 hi ⟨d, x3, r, eσ, s3, hd, e3, l3, c3⟩ s4 it => ?_) fun σ H3 ⟨d, x3, r, eσ, s3, hd, e3, l3, c3⟩ => ?_
  · refine ⟨d0, _, [1], rfl, Same.new hd0, hd0, upd_same, rfl, fun k => ?_⟩
    cases k with
    | zero => rfl
    | succ k => exact co_out (by show 1 ≤ k + 1; omega)
  · subst eσ it
    refine asg1 ⟨_, rfl, _, rfl, ?_⟩
    refine ⟨d, a, r, row, rfl, SqL.of (s4 _ _ e3), (s3.trans s4).seq ha, by omega, by omega, by omega, by omega, ?_, fun H5 d5 r5 s5 hd5 e5 l5 c5 => ?_⟩
    · intro k
      rw [c3]
      exact Nat.lt_of_le_of_lt (pwr_bits h2 b0 b1 i k) (Nat.pow_lt_pow_right (by decide) (by omega))
    · refine ⟨d5, _, r5, rfl, s3.trans (s4.trans s5), (s3.trans s4).free hd5, e5, by omega, fun k => ?_⟩
      rw [c5]
      exact conv_congrL _ c3 k
  · subst eσ
    dsimp only
    exact ret1 ⟨_, rfl, q _ d r s3 hd e3 l3 c3⟩
end
end Kz
end
section
set_option Elab.async false
set_option linter.all false
set_option maxRecDepth 100000
set_option maxHeartbeats 4000000
/-! the series of a web's fractions -/
namespace Kz
open KzM
theorem pwr_pw (e : Int) : ∀ m k, pwr (co [1, e]) m k = pw e m k
  | 0, k => rfl
  | m + 1, k => by
    show conv (pwr (co [1, e]) m) (co [1, e]) k = conv (Pe e) (pw e m) k
    rw [conv_comm, conv_congrL _ (g := Pe e) (fun i => ?_), conv_congrR _ (pwr_pw e m)]
    match i with
    | 0 => rfl
    | 1 => rfl
    | i + 2 => exact (co_out (by show 2 ≤ i + 2; omega)).trans (fin_P e (i + 2) (by omega)).symm
theorem pwr_mono (s : Int) : ∀ m k, pwr (co [0, s]) m k = mono m (s ^ m) k
  | 0, k => by
    show (if k = 0 then (1 : Int) else 0) = if k = 0 then s ^ 0 else 0
    rw [Int.pow_zero]
  | m + 1, 0 => by
    show pwr (co [0, s]) m 0 * 0 = if 0 = m + 1 then s ^ (m + 1) else 0
    rw [if_neg (by omega), Int.mul_zero]
  | m + 1, k + 1 => by
    show conv (pwr (co [0, s]) m) (co [0, s]) (k + 1) = if k + 1 = m + 1 then s ^ (m + 1) else 0
    rw [conv_two _ _ rfl, pwr_mono s m k]
    show _ * 0 + (if k = m then s ^ m else 0) * s = _
    rw [Int.mul_zero, Int.zero_add]
    by_cases h : k = m
    · rw [if_pos h, if_pos (by omega), Int.pow_succ]
    · rw [if_neg h, if_neg (by omega), Int.zero_mul]
theorem pw_small {e : Int} (he : e = 1 ∨ e = -1) : ∀ {j : Nat}, j ≤ 5 → ∀ k, (pw e j k).natAbs ≤ 10 := by
  intro j hj k
  by_cases hk : k ≤ 5
  · have h : ∀ j, j < 6 → ∀ k, k < 6 → (pw 1 j k).natAbs ≤ 10 ∧ (pw (-1) j k).natAbs ≤ 10 := by decide +kernel
    have := h j (by omega) k (by omega)
    rcases he with he | he
    · rw [he]; exact this.1
    · rw [he]; exact this.2
  · rw [fin_pw e j k (by omega)]
    decide
/-- what one lot adds -/
def lotSer (s e : Int) (jf : List Nat → Nat) (lot : List Nat) : Ser := fun k => if lot.length ≤ k then s ^ lot.length * pw e (jf lot) (k - lot.length) else 0
def lotSum (s e : Int) (jf : List Nat → Nat) (ls : List (List Nat)) : Ser := fun k => (ls.map fun lot => lotSer s e jf lot k).sum
theorem lotSer_conv (s e : Int) (jf : List Nat → Nat) (lot : List Nat) (k : Nat) : conv (pwr (co [0, s]) lot.length) (pwr (co [1, e]) (jf lot)) k = lotSer s e jf lot k := by
  rw [conv_congrL _ (pwr_mono s lot.length), conv_congrR _ (pwr_pw e (jf lot)), conv_mono]
  rfl
theorem sum_perm {l m : List Int} (h : l.Perm m) : l.sum = m.sum := by
  induction h with
  | nil => rfl
  | cons x _ ih => rw [List.sum_cons, List.sum_cons, ih]
  | swap x y l => rw [List.sum_cons, List.sum_cons, List.sum_cons, List.sum_cons]; omega
  | trans _ _ h1 h2 => exact h1.trans h2
theorem lotSum_perm {s e : Int} {jf : List Nat → Nat} {l m : List (List Nat)} (h : l.Perm m) (k : Nat) : lotSum s e jf l k = lotSum s e jf m k := sum_perm (h.map _)
theorem lotSum_snoc {s e : Int} {jf : List Nat → Nat} (l : List (List Nat)) (x : List Nat) (k : Nat) : lotSum s e jf (l ++ [x]) k = lotSum s e jf l k + lotSer s e jf x k := by
  unfold lotSum
  rw [List.map_append, List.sum_append]
  show _ + (_ + 0) = _
  rw [Int.add_zero]
theorem unit_pow {s : Int} (hs : s = 1 ∨ s = -1) : ∀ m : Nat, (s ^ m).natAbs = 1
  | 0 => by rw [Int.pow_zero]; rfl
  | m + 1 => by
    rw [Int.pow_succ, Int.natAbs_mul, unit_pow hs m]
    rcases hs with h | h <;> rw [h] <;> rfl
theorem lotSum_small {s e : Int} (hs : s = 1 ∨ s = -1) (he : e = 1 ∨ e = -1) {jf : List Nat → Nat} : ∀ {ls : List (List Nat)}, (∀ lot ∈ ls, jf lot ≤ 5) → ∀ k, (lotSum s e jf ls k).natAbs ≤ 10 * ls.length
  | [], _, k => Nat.zero_le _
  | x :: r, h, k => by
    have ih := lotSum_small (jf := jf) hs he (ls := r) (fun l m => h l (List.mem_cons_of_mem _ m)) k
    have e1 : lotSum s e jf (x :: r) k = lotSer s e jf x k + lotSum s e jf r k := by unfold lotSum; rw [List.map_cons, List.sum_cons]
    have e2 : (lotSer s e jf x k).natAbs ≤ 10 := by
      unfold lotSer
      split
      · rw [Int.natAbs_mul, unit_pow hs, Nat.one_mul]
        exact pw_small he (h x List.mem_cons_self) _
      · decide
    rw [e1, List.length_cons]
    have := Int.natAbs_add_le (lotSer s e jf x k) (lotSum s e jf r k)
    omega
theorem lotsTo_one (ps : List (Nat × Nat)) : ∀ m, ∃ r, lotsTo ps m = [] :: r ∧ ∀ lot ∈ r, lot ≠ []
  | 0 => ⟨[], rfl, fun _ h => (by cases h)⟩
  | m + 1 => by
    obtain ⟨r, e, h⟩ := lotsTo_one ps m
    refine ⟨r ++ ((lotsTo ps m).filter fun lot => lot.all fun o => decide ((o, m) ∈ ps)).map fun lot => lot ++ [m], ?_, fun lot hl => ?_⟩
    · show lotsTo ps m ++ _ = _
      rw [e]
      rfl
    · rcases List.mem_append.mp hl with z | z
      · exact h lot z
      · obtain ⟨l0, _, e0⟩ := List.mem_map.mp z
        rw [← e0]
        simp
theorem lotSum_zero {s e : Int} {jf : List Nat → Nat} (ps : List (Nat × Nat)) (n : Nat) : lotSum s e jf (lotsTo ps n) 0 = 1 := by
  obtain ⟨r, er, h⟩ := lotsTo_one ps n
  rw [er]
  have z : ∀ l : List (List Nat), (∀ lot ∈ l, lot ≠ []) → lotSum s e jf l 0 = 0 := by
    intro l
    induction l with
    | nil => intro _; rfl
    | cons x l ih =>
      intro h
      have e1 : lotSum s e jf (x :: l) 0 = lotSer s e jf x 0 + lotSum s e jf l 0 := by unfold lotSum; rw [List.map_cons, List.sum_cons]
      rw [e1, ih fun l m => h l (List.mem_cons_of_mem _ m)]
      have : ¬ x.length ≤ 0 := by
        have := h x List.mem_cons_self
        intro c
        exact this (List.length_eq_zero_iff.mp (by omega))
      unfold lotSer
      rw [if_neg this]
      rfl
  have e1 : lotSum s e jf ([] :: r) 0 = lotSer s e jf [] 0 + lotSum s e jf r 0 := by unfold lotSum; rw [List.map_cons, List.sum_cons]
  rw [e1, z r h, Int.add_zero]
  show (if 0 ≤ 0 then s ^ 0 * pw e (jf []) (0 - 0) else 0) = 1
  rw [if_pos (Nat.le_refl 0), Int.pow_zero, pw_zero]
  rfl
theorem lotsTo_nodup (ps : List (Nat × Nat)) : ∀ m, ∀ lot ∈ lotsTo ps m, lot.Nodup
  | 0, lot, h => by
    rw [List.mem_singleton.mp h]
    exact List.nodup_nil
  | m + 1, lot, h => by
    rcases List.mem_append.mp h with h | h
    · exact lotsTo_nodup ps m lot h
    · obtain ⟨l0, m0, rfl⟩ := List.mem_map.mp h
      have m1 := (List.mem_filter.mp m0).1
      rw [List.nodup_append]
      refine ⟨lotsTo_nodup ps m l0 m1, by simp, fun a ha b hb e => ?_⟩
      rw [List.mem_singleton] at hb
      have := (lotsTo_at ps m l0 m1).2 a ha
      omega
abbrev lostIn (ns lot : List Nat) : Nat := (lot.filter fun x => decide (x ∈ ns)).length
abbrev keptIn (ns lot : List Nat) : Nat := (lot.filter fun x => !decide (x ∈ ns)).length
theorem lost_kept (ns : List Nat) : ∀ lot : List Nat, lostIn ns lot + keptIn ns lot = lot.length
  | [] => rfl
  | x :: l => by
    have ih := lost_kept ns l
    unfold lostIn keptIn at *
    by_cases h : x ∈ ns
    · rw [List.filter_cons_of_pos (by simpa using h), List.filter_cons_of_neg (by simpa using h), List.length_cons, List.length_cons]
      omega
    · rw [List.filter_cons_of_neg (by simpa using h), List.filter_cons_of_pos (by simpa using h), List.length_cons, List.length_cons]
      omega
theorem lost_le {ns lot : List Nat} (nd : lot.Nodup) : lostIn ns lot ≤ ns.length := nodup_len (nd.filter _) fun x h => by simpa using (List.mem_filter.mp h).2
theorem kept_le {n : Nat} {ns lot : List Nat} (nd : lot.Nodup) (hl : ∀ x ∈ lot, x < n) (ndn : ns.Nodup) (hn : ∀ x ∈ ns, x < n) : keptIn ns lot + ns.length ≤ n := by
  have h : ((lot.filter fun x => !decide (x ∈ ns)) ++ ns).Nodup := by
    rw [List.nodup_append]
    refine ⟨nd.filter _, ndn, fun a ha b hb e => ?_⟩
    have := (List.mem_filter.mp ha).2
    rw [e] at this
    simp [hb] at this
  have := nodup_len (ys := List.range n) h fun x hx => by
    rw [List.mem_range]
    rcases List.mem_append.mp hx with z | z
    · exact hl x (List.mem_filter.mp z).1
    · exact hn x z
  rw [List.length_append, List.length_range] at this
  exact this
/-- (1 + e t)^m and a series: the shared power -/
theorem cop_some {e : Int} (he : e * e = 1) : ∀ (m : Nat) {b : Nat} {B : Ser}, Fin_ b B → B 0 = 1 → ∃ K, K ≤ m ∧ CopP e K (pw e m) B
  | 0, b, B, hb, h0 => ⟨0, Nat.le_refl 0, 0, b, B, fun _ => rfl, fun k => (conv_one B k).symm, hb, .inl rfl, h0⟩
  | m + 1, b, B, hb, h0 => by
    by_cases z : evr (-e) b B = 0
    · obtain ⟨h, fh, eh⟩ := root_out he hb z
      have hh0 : h 0 = 1 := by
        have := eh 0
        rw [h0] at this
        have e1 : conv (Pe e) h 0 = 1 * h 0 := rfl
        rw [e1] at this
        omega
      obtain ⟨K, hK, j, b', B', h1, h2, h3, h4, h5⟩ := cop_some he m fh hh0
      refine ⟨K + 1, by omega, j, b', B', fun k => ?_, fun k => ?_, h3, h4, h5⟩
      · show conv (Pe e) (pw e m) k = pw e (K + 1 + j) k
        rw [Nat.add_right_comm]
        exact conv_congrR _ h1 k
      · rw [eh, conv_congrR _ h2]
        exact (conv_assoc (Pe e) (pw e K) B' k).symm
    · exact ⟨0, Nat.zero_le _, m + 1, b, B, fun k => by rw [Nat.zero_add], fun k => (conv_one B k).symm, hb, .inr z, h0⟩
end Kz
end
section
set_option Elab.async false
set_option linter.all false
set_option maxRecDepth 100000
set_option maxHeartbeats 4000000
/-! the webs' fractions -/
namespace Kz
open PySem PySem.Spec PyProof.Rows L2 KzM
abbrev natV (ns : List Nat) : List V := ns.map fun x => V.int (x : Nat)
open Classical in
/-- the power of 1 + e t that both have -/
noncomputable def kOf (e : Int) (x : Ser × Ser) : Nat := if h : ∃ k, k ≤ 10 ∧ (CopP e k x.1 x.2 ∨ CopP e k x.2 x.1) then h.choose else 0
theorem kOf_is {e : Int} {x : Ser × Ser} (h : ∃ k, k ≤ 10 ∧ (CopP e k x.1 x.2 ∨ CopP e k x.2 x.1)) : kOf e x ≤ 10 ∧ (CopP e (kOf e x) x.1 x.2 ∨ CopP e (kOf e x) x.2 x.1) := by
  have z : kOf e x = h.choose := dif_pos h
  rw [z]
  exact h.choose_spec
def spFrac (K : PySem.W.Frag) (CB CW : Addr) (e : Int) (F : Nat → List Trip → List Nat → Ser × Ser) : Sp := fun vs H Q E =>
  (∃ n la oa trs ns, vs = [.int (n : Nat), .ref la, .ref oa] ∧ LinesX K H la trs ∧ SqX K H oa (natV ns) ∧ WebOk n trs ns ∧
    ∀ H' t over below r1 r2, Same H H' → FracAt K H' t r1 r2 → Least e (kOf e (F n trs ns)) over below r1 r2 → over.length ≤ n + 1 → below.length ≤ n + 1 → (∀ k, co over k = (F n trs ns).1 k) → (∀ k, co below k = (F n trs ns).2 k) → Q (.ref t) H') ∨
  ∃ v d vl dl vo do_, vs = [v, vl, vo] ∧ PDR K H v d ∧ (btwD d 1 9 = false → XKw CB E H) ∧ ∀ n, d = .int n → btwD d 1 9 = true → PDR K H vl dl ∧ fewD dl ∧ PDR K H vo do_ ∧ fewD do_ ∧ (linesD n dl && nothD n do_) = false ∧ ∀ H', Same H H' → E (.ref CW) none H'
def webF (n : Nat) (trs : List Trip) (ns : List Nat) : Ser × Ser := (pw 1 ns.length, lotSum (-1) 1 (fun lot => ns.length - lostIn ns lot) (lotsTo (pairsOfT trs) n))
def shutF (n : Nat) (trs : List Trip) (ns : List Nat) : Ser × Ser := (lotSum 1 (-1) (fun lot => n - ns.length - keptIn ns lot) (lotsTo (pairsOfT trs) n), pw (-1) (n - ns.length))
theorem inV_nat (o : Nat) : ∀ ns : List Nat, inV (.int (o : Nat)) (natV ns) = decide (o ∈ ns)
  | [] => rfl
  | x :: r => by
    have ih := inV_nat o r
    show (eqV (.int (x : Nat)) (.int (o : Nat)) || inV (.int (o : Nat)) (natV r)) = _
    rw [ih]
    have e : eqV (.int (x : Nat)) (.int (o : Nat)) = decide (o = x) := by
      show ((x : Int) == (o : Int)) = _
      by_cases h : o = x
      · rw [decide_eq_true h, h]; simp
      · rw [decide_eq_false h]; simp; omega
    rw [e]
    by_cases h : o = x
    · rw [decide_eq_true h, decide_eq_true (p := o ∈ x :: r) (by rw [h]; exact List.mem_cons_self)]; rfl
    · rw [decide_eq_false h, Bool.false_or, decide_eq_decide]
      exact ⟨fun z => List.mem_cons_of_mem _ z, fun z => (List.mem_cons.mp z).resolve_left h⟩
theorem flat_nat : ∀ ns : List Nat, (natV ns).all flatV = true
  | [] => rfl
  | x :: r => by
    show (flatV (.int (x : Nat)) && (natV r).all flatV) = true
    rw [flat_nat r]
    rfl
abbrev pickIn (neg : Bool) (ns : List Nat) (x : Nat) : Bool := if neg = true then !decide (x ∈ ns) else decide (x ∈ ns)
theorem in_read {K : PySem.W.Frag} {j : Nat} (neg : Bool) {tl : TE} {σ : L2.St} {H : Hp} {Q : VK} {p oa : Addr} {lot ns : List Nat} (htl : ∀ R : VK, R (.ref p) H → tl σ H R) (hp : SqT K H p ((toI lot).map V.int)) (ho : SqX K H oa (natV ns)) (hz : lot.length < 64)
    (hw : ∀ x, wipe ((wipe σ [j]).set j (some x)) [j] = wipe σ [j]) (hg : ∀ x, ((wipe σ [j]).set j (some x))[j]? = some (some x)) (hn : ∀ x, ((wipe σ [j]).set j (some x))[2]? = some (some (.ref oa)))
    (h : ∀ D H', Same H H' → H D = none → H' D = some (.lst (natV (lot.filter (pickIn neg ns)))) → Q (.ref D) H') :
    tLc (iTup K tl) (gName j) (tTest (tOp (rIn K neg) (tVar j) (tVar 2))) (tVar j) [j] σ H Q := by
  have lsz : ((toI lot).map V.int).length = lot.length := by rw [List.length_map, List.length_map]
  refine htl _ ⟨p, rfl, ⟨_, hp⟩, lc_walkF (wk_tup (K := K) (xs := (toI lot).map V.int)) (fun i => pickIn neg ns (lot.getD i 0)) (fun i => V.int ((lot.getD i 0 : Nat) : Int)) (by rw [lsz]; exact Nat.lt_trans hz (by decide)) hp (fun D i x H' C N hi it s hD ac kC kN => ?_) fun D H' s hD e => ?_⟩
  · rw [lsz] at hi
    obtain ⟨o, eo⟩ : ∃ o, lot[i]? = some o := ⟨_, List.getElem?_eq_getElem hi⟩
    have ex : x = V.int (o : Int) := by
      have h1 : ((toI lot).map V.int)[i]? = some x := it
      rw [List.getElem?_map, List.getElem?_map, eo] at h1
      exact (Option.some.inj h1).symm
    subst ex
    have eg : lot.getD i 0 = o := by rw [List.getD_eq_getElem?_getD, eo]; rfl
    rw [eg] at kC kN
    refine ⟨hw _, test1 (op1 ⟨_, hg _, _, hn _, oa, natV ns, rfl, s.seqX ho, rfl, flat_nat ns, _, rfl, ?_⟩)⟩
    rw [inV_nat]
    by_cases hk : pickIn neg ns o = true
    · exact iteT' hk ⟨_, hg _, kC _ hk (Same.refl _)⟩
    · have hk' : pickIn neg ns o = false := Bool.eq_false_iff.mpr hk
      show (if pickIn neg ns o = true then _ else N _)
      rw [if_neg hk]
      exact kN _ hk' (Same.refl _)
  · refine h D H' s hD ?_
    rw [e, lsz, range_filter_map lot 0 (pickIn neg ns) fun o => V.int (o : Int)]
section
variable {w : World} {K : PySem.W.Frag} {mg : Str → Option Value} {base : Heap}
abbrev N_web_fraction : List Str := ["letters", "lines", "nothings", "below", "lot", "lost", "part", "letter"]
theorem sc_web_fraction : FnScope N_web_fraction ["letters", "lines", "nothings"] (defScope sd_web_fraction) := ⟨rfl, rfl, rfl, by decide +kernel, rfl, by decide +kernel, by decide +kernel⟩
theorem f_web_fraction {CB CW : Addr} (D : DefAt K mg "web_fraction" sd_web_fraction) (T : Txt K mg) (f_need_web : FnS PG w K mg base (L2.CX PG w) 5 "need_web" ["letters", "lines", "nothings"] (spNeedWeb K CB CW))
    (f_lots_in : FnS PG w K mg base CX0 1 "lots_in" ["letters", "lines"] (spLots K)) (f_list_power : FnS PG w K mg base CX0 2 "list_power" ["row", "many"] (spListPower K)) (f_products_joined : FnS PG w K mg base CX0 1 "products_joined" ["one", "other"] (spProducts K))
    (f_lists_joined : FnS PG w K mg base CX0 1 "lists_joined" ["one", "other"] (spLists K)) (f_least_fraction : FnS PG w K mg base CX0 4 "least_fraction" ["over", "below"] (spLeast K)) :
    FnS PG w K mg base (L2.CX PG w) 6 "web_fraction" ["letters", "lines", "nothings"] (spFrac K CB CW 1 webF) :=
  mkFn D sc_web_fraction (fun _ _ _ _ _ _ us hl => match us, hl with | [_, _, _], _ => rfl) (fun vs H Q E h => by rcases h with ⟨_, _, _, _, _, e, _⟩ | ⟨_, _, _, _, _, _, e, _⟩ <;> rw [e] <;> rfl) fun cdv A outer s H vs Q E hr h => by
  refine ⟨_, (pss_cons (ps_expr (pe_call f_need_web.ok (hr.mono (by decide)) rfl f_need_web.g f_need_web.kp f_need_web.b .nil (passes_call (takes_of rfl rfl rfl rfl) fun _ _ _ _ h => h) (pa_cons (pv 0) (pa_cons (pv 1) (pa_cons (pv 2) pa_nil)))))
      (pss_cons (ps_set (i := 3) sc_web_fraction.nd rfl (.inl rfl) (pe_lst (pa_cons pe_int pa_nil)))
      (pss_cons (ps_for (passes_of rfl) rfl (pi_list (pe_call f_lots_in.ok (hr.mono (by decide)) rfl f_lots_in.g f_lots_in.kp f_lots_in.b .nil pass0 (pa_cons (pv 0) (pa_cons (pv 1) pa_nil)))) (pg_name (i := 4) sc_web_fraction.nd rfl (.inl rfl)) (pss_cons (ps_set (i := 5) sc_web_fraction.nd rfl (.inl rfl) (pe_callB call_len_seq (by rfl) T.len_ bo_len (pa_cons (pe_lc (own := [("letter", 7)]) (g := (gName 7)) rfl sc_web_fraction.nd (pi_tup (pv 4)) (blkOk_by (N := N_web_fraction) (sc := defScope sd_web_fraction) (by decide +kernel)) (fun _ _ _ _ _ => (pg_name (i := 7) sc_web_fraction.nd rfl (.inl rfl))) (fun _ _ _ _ _ => (pts_one (pt_cmpR (op_in_seq : OpR _ _ (rIn K false)) (pv 7) (pv 2) rfl))) (fun _ _ _ _ _ => (pv 7))) pa_nil)))
      (pss_cons (ps_set (i := 6) sc_web_fraction.nd rfl (.inl rfl) (pe_call f_products_joined.ok (hr.mono (by decide)) rfl f_products_joined.g f_products_joined.kp f_products_joined.b .nil pass0 (pa_cons (pe_call f_list_power.ok (hr.mono (by decide)) rfl f_list_power.g f_list_power.kp f_list_power.b .nil pass0 (pa_cons (pe_lst (pa_cons pe_int (pa_cons (pe_un un_neg pe_int) pa_nil))) (pa_cons (pe_callB call_len_seq (by rfl) T.len_ bo_len (pa_cons (pv 4) pa_nil)) pa_nil))) (pa_cons (pe_call f_list_power.ok (hr.mono (by decide)) rfl f_list_power.g f_list_power.kp f_list_power.b .nil pass0 (pa_cons (pe_lst (pa_cons pe_int (pa_cons pe_int pa_nil))) (pa_cons (pe_op op_sub (pe_callB call_len_seq (by rfl) T.len_ bo_len (pa_cons (pv 2) pa_nil)) (pv 5)) pa_nil))) pa_nil))))
      (pss_one (ps_set (i := 3) sc_web_fraction.nd rfl (.inl rfl) (pe_call f_lists_joined.ok (hr.mono (by decide)) rfl f_lists_joined.g f_lists_joined.kp f_lists_joined.b .nil pass0 (pa_cons (pv 3) (pa_cons (pv 6) pa_nil))))))))
      (pss_one (ps_ret (pe_call f_least_fraction.ok (hr.mono (by decide)) rfl f_least_fraction.g f_least_fraction.kp f_least_fraction.b .nil pass0 (pa_cons (pe_call f_list_power.ok (hr.mono (by decide)) rfl f_list_power.g f_list_power.kp f_list_power.b .nil pass0 (pa_cons (pe_lst (pa_cons pe_int (pa_cons pe_int pa_nil))) (pa_cons (pe_callB call_len_seq (by rfl) T.len_ bo_len (pa_cons (pv 2) pa_nil)) pa_nil))) (pa_cons (pv 3) pa_nil)))))))), ?_⟩
  rcases h with ⟨n, la, oa, trs, ns, e, ⟨ts, hl, ht⟩, ho, W, q⟩ | ⟨v, d, vl, dl, vo, do_, e, hd, q1, q2⟩
  · subst e
    refine ⟨_, rfl, _, rfl, _, rfl, ?_⟩
    refine ⟨_, _, _, .seq (trs.map tripD), _, .seq (ns.map fun x => PD.int (x : Nat)), rfl, .int _, (fun z => by rw [web_btw W] at z; cases z), fun m em _ => ?_⟩
    obtain ⟨c1, c2, c3, c4⟩ := web_see (m := m) W hl ht ho em
    refine ⟨c1, (web_few W).1, c2, (web_few W).2, fun _ _ H1 s1 => ?_, fun z => (both_no c3 c4 z).elim⟩
    have n5 := W.n5
    have n1 := W.n1
    have few := W.few
    have big : 10000 < sizeLine := by decide
    dsimp only
    refine seq1 (asg1 ⟨(by show 1 ≤ sizeLine; decide), fun d0 hd0 => ?_⟩)
    have s01 : Same H (upd H1 d0 (.lst ([0].map V.int))) := s1.trans (Same.new hd0)
    dsimp only
    refine seq1 ⟨_, rfl, _, rfl, n, la, trs, ns, rfl, ⟨ts, s01.seqX hl, paired_imp ht fun _ _ r => s01.seqX r⟩, W, fun H3 dl ls s3 hdl ⟨ks, k1, k2, k3⟩ pl => ⟨dl, rfl, ⟨_, k1⟩, ?_⟩⟩
    have kl : ks.length = ls.length := by
      have := congrArg List.length k3
      rw [List.length_map, List.length_map] at this
      exact this
    have l32 : ls.length ≤ 32 := by
      rw [pl.length_eq]
      exact Nat.le_trans (lotsTo_len _ n) (Nat.pow_le_pow_right (n := 2) (by decide) n5)
    refine for_walk (wk_list (K := K) (xs := ks.map fun p => V.ref p.1)) (fun i σ H' => ∃ (d : Addr) (x4 x5 x6 x7 : Option V) (below : List Int), σ = [some (.int (n : Nat)), some (.ref la), some (.ref oa), some (.ref d), x4, x5, x6, x7] ∧ Same H3 H' ∧ H' d = some (.lst (below.map V.int)) ∧ below.length ≤ n + 1 ∧ ∀ k, co below k = lotSum (-1) 1 (fun lot => ns.length - lostIn ns lot) (ls.take i) k)
      ?_ (fun _ _ _ _ ⟨_, _, _, _, _, _, _, z, _⟩ => z.seq k1) (fun i x σ H4 H5 hi ⟨d, x4, x5, x6, x7, below, eσ, s4, e4, l4, c4⟩ s5 it => ?_) fun σ H4 ⟨d, x4, x5, x6, x7, below, eσ, s4, e4, l4, c4⟩ => ?_
    · refine ⟨d0, _, _, _, _, [0], rfl, Same.refl _, s3 _ _ upd_same, by show 1 ≤ n + 1; omega, fun k => ?_⟩
      show _ = 0
      cases k with
      | zero => rfl
      | succ k => exact co_out (by show 1 ≤ k + 1; omega)
    · subst eσ
      have hi' : i < ks.length := by
        rw [List.length_map] at hi
        exact hi
      have hl' : i < ls.length := by rw [← kl]; exact hi'
      obtain ⟨lot, elot⟩ : ∃ lot, ls[i]? = some lot := ⟨_, List.getElem?_eq_getElem hl'⟩
      obtain ⟨p, ep⟩ : ∃ p, ks[i]? = some p := ⟨_, List.getElem?_eq_getElem hi'⟩
      have ex : x = V.ref p.1 := by
        have h1 : (ks.map fun p => V.ref p.1)[i]? = some x := it
        rw [List.getElem?_map, ep] at h1
        exact (Option.some.inj h1).symm
      subst ex
      have e2p : p.2 = toI lot := by
        have h1 : (ks.map (·.2))[i]? = some (toI lot) := by rw [k3, List.getElem?_map, elot]; rfl
        rw [List.getElem?_map, ep] at h1
        exact Option.some.inj h1
      have s35 := s4.trans s5
      have hp : SqT K H5 p.1 ((toI lot).map V.int) := by
        have := k2 p (List.mem_of_getElem? ep)
        rw [e2p] at this
        exact s35.seqT this
      have ml : lot ∈ lotsTo (pairsOfT trs) n := pl.mem_iff.mp (List.mem_of_getElem? elot)
      have la_ := lotsTo_at (pairsOfT trs) n lot ml
      have nd := lotsTo_nodup (pairsOfT trs) n lot ml
      have b1 := lost_le (ns := ns) nd
      have b2 := kept_le nd la_.2 W.ndn W.no
      have b3 := lost_kept ns lot
      have s05 : Same H H5 := s01.trans (s3.trans s35)
      dsimp only
      refine seq1 (asg1 (tcb1 (in_read (j := 7) false (fun R h => ⟨_, rfl, h⟩) hp (s05.seqX ho) (by omega) (fun _ => rfl) (fun _ => rfl) (fun _ => rfl) fun D6 H6 s6 hD6 e6 => ?_)))
      refine ⟨D6, _, rfl, .inl (SqL.of e6), ?_⟩
      rw [show ((natV (lot.filter (pickIn false ns))).length : Int) = (lostIn ns lot : Nat) by rw [List.length_map]; rfl]
      have lsz : ((toI lot).map V.int).length = lot.length := by rw [List.length_map, List.length_map]
      have nsz : (natV ns).length = ns.length := by rw [List.length_map]
      have lotn := la_.1
      dsimp only
      refine seq1 (asg1 ⟨_, rfl, (by show 2 ≤ sizeLine; decide), fun d1 hd1 => ?_⟩)
      have s7a : Same H5 (upd H6 d1 (.lst ([0, -1].map V.int))) := s6.trans (Same.new hd1)
      refine ⟨_, rfl, p.1, _, rfl, .inr (s7a.seqT hp), d1, [0, -1], _, rfl, SqL.of upd_same, rfl, by decide, by decide, by rw [lsz]; omega, fun H7 d7 r7 s7 hd7 e7 l7 c7 => ?_⟩
      refine ⟨(by show 2 ≤ sizeLine; decide), fun d8 hd8 => ?_⟩
      have s8 : Same H7 (upd H7 d8 (.lst ([1, 1].map V.int))) := Same.new hd8
      refine ⟨_, rfl, oa, _, rfl, (s05.trans (s7a.trans (s7.trans s8))).seqX ho, _, rfl, _, _, rfl, rfl, d8, [1, 1], ns.length - lostIn ns lot, ?_, SqL.of upd_same, rfl, by decide, by decide, by omega, fun H9 d9 r9 s9 hd9 e9 l9 c9 => ?_⟩
      · rw [nsz]
        show [V.ref d8, V.int ((ns.length : Int) - (lostIn ns lot : Nat))] = [V.ref d8, V.int ((ns.length - lostIn ns lot : Nat) : Int)]
        rw [show ((ns.length : Int) - (lostIn ns lot : Nat)) = ((ns.length - lostIn ns lot : Nat) : Int) by omega]
      refine ⟨d7, d9, r7, r9, rfl, SqL.of ((s8.trans s9) _ _ e7), SqL.of e9, by omega, by omega, by omega, by omega, ?_, fun H10 d10 r10 s10 hd10 e10 l10 c10 => ?_⟩
      · intro k
        rw [c7]
        exact Nat.lt_of_le_of_lt (pwr_bits rfl (by decide) (by decide) _ k) (Nat.pow_lt_pow_right (by decide) (by rw [lsz]; omega))
      have sT : Same H5 H10 := s7a.trans (s7.trans (s8.trans (s9.trans s10)))
      dsimp only
      refine asg1 ⟨_, rfl, _, rfl, d, d10, below, r10, rfl, SqL.of ((s5.trans sT) _ _ e4), SqL.of e10, by omega, by omega, fun H11 d11 r11 s11 hd11 e11 l11 c11 => ?_⟩
      refine ⟨d11, _, _, _, _, r11, rfl, s35.trans (sT.trans s11), e11, by omega, fun k => ?_⟩
      rw [c11, c4, c10, conv_congrL _ c7, conv_congrR _ c9, List.take_succ, elot]
      show _ = lotSum _ _ _ (ls.take i ++ [lot]) k
      rw [lotSum_snoc, ← lotSer_conv, lsz]
    · subst eσ
      rw [List.length_map, kl, List.take_length] at c4
      have nl := ns_len W
      have c5 : ∀ k, co below k = (webF n trs ns).2 k := fun k => (c4 k).trans (lotSum_perm pl k)
      obtain ⟨k0, hk0, cop⟩ := cop_some (e := 1) rfl ns.length (b := n) (B := co below) (fun k hk => co_out (by omega)) (by rw [c5]; exact lotSum_zero _ n)
      have s04 : Same H H4 := s01.trans (s3.trans s4)
      dsimp only
      refine ret1 ⟨(by show 2 ≤ sizeLine; decide), fun d5 hd5 => ?_⟩
      have s5 : Same H4 (upd H4 d5 (.lst ([1, 1].map V.int))) := Same.new hd5
      refine ⟨_, rfl, oa, _, rfl, (s04.trans s5).seqX ho, d5, [1, 1], _, rfl, SqL.of upd_same, rfl, by decide, by decide, by rw [List.length_map]; omega, fun H6 d6 r6 s6 hd6 e6 l6 c6 => ?_⟩
      have c6' : ∀ k, co r6 k = pw 1 ns.length k := fun k => by rw [c6, pwr_pw, List.length_map]
      rw [List.length_map] at l6
      rw [← (funext c6' : co r6 = pw 1 ns.length)] at cop
      have eF : webF n trs ns = (co r6, co below) := by rw [funext c6', funext c5]; rfl
      have hk : kOf 1 (webF n trs ns) ≤ 10 ∧ (CopP 1 (kOf 1 (webF n trs ns)) (co r6) (co below) ∨ CopP 1 (kOf 1 (webF n trs ns)) (co below) (co r6)) := by
        rw [eF]
        exact kOf_is ⟨k0, by omega, .inl cop⟩
      refine ⟨_, rfl, d6, d, r6, below, 1, kOf 1 (webF n trs ns), rfl, SqL.of e6, SqL.of ((s5.trans s6) _ _ e4), rfl, hk.1, hk.2, by omega, by omega, fun k => ?_, fun k => ?_, fun H7 t r1 r2 s7 fa le => q H7 t r6 below r1 r2 (s04.trans (s5.trans (s6.trans s7))) fa le (by omega) (by omega) c6' c5⟩
      · rw [c6']
        exact Nat.lt_of_le_of_lt (pw_small (.inl rfl) (by omega) k) (by decide)
      · rw [c4]
        exact Nat.lt_of_le_of_lt (lotSum_small (.inr rfl) (.inl rfl) (fun lot _ => Nat.le_trans (Nat.sub_le _ _) (by omega)) k) (show 10 * ls.length < 512 by omega)
  · subst e
    refine ⟨_, rfl, _, rfl, _, rfl, ?_⟩
    refine ⟨_, _, _, dl, _, do_, rfl, hd, q1, fun m em hb => ?_⟩
    obtain ⟨c1, c2, c3, c4, c5, c6⟩ := q2 m em hb
    refine ⟨c1, c2, c3, c4, fun z1 z2 => (both_no z1 z2 c5).elim, fun _ => c6⟩
end
end Kz
end
section
set_option Elab.async false
set_option linter.all false
set_option maxRecDepth 100000
set_option maxHeartbeats 4000000
/-! the shut webs' fractions -/
namespace Kz
open PySem PySem.Spec PyProof.Rows L2 KzM
section
variable {w : World} {K : PySem.W.Frag} {mg : Str → Option Value} {base : Heap}
abbrev N_shut_fraction : List Str := ["letters", "lines", "nothings", "over", "many", "lot", "kept", "part", "letter"]
theorem sc_shut_fraction : FnScope N_shut_fraction ["letters", "lines", "nothings"] (defScope sd_shut_fraction) := ⟨rfl, rfl, rfl, by decide +kernel, rfl, by decide +kernel, by decide +kernel⟩
theorem f_shut_fraction {CB CW : Addr} (D : DefAt K mg "shut_fraction" sd_shut_fraction) (T : Txt K mg) (f_need_web : FnS PG w K mg base (L2.CX PG w) 5 "need_web" ["letters", "lines", "nothings"] (spNeedWeb K CB CW))
    (f_lots_in : FnS PG w K mg base CX0 1 "lots_in" ["letters", "lines"] (spLots K)) (f_list_power : FnS PG w K mg base CX0 2 "list_power" ["row", "many"] (spListPower K)) (f_products_joined : FnS PG w K mg base CX0 1 "products_joined" ["one", "other"] (spProducts K))
    (f_lists_joined : FnS PG w K mg base CX0 1 "lists_joined" ["one", "other"] (spLists K)) (f_least_fraction : FnS PG w K mg base CX0 4 "least_fraction" ["over", "below"] (spLeast K)) :
    FnS PG w K mg base (L2.CX PG w) 6 "shut_fraction" ["letters", "lines", "nothings"] (spFrac K CB CW (-1) shutF) :=
  mkFn D sc_shut_fraction (fun _ _ _ _ _ _ us hl => match us, hl with | [_, _, _], _ => rfl) (fun vs H Q E h => by rcases h with ⟨_, _, _, _, _, e, _⟩ | ⟨_, _, _, _, _, _, e, _⟩ <;> rw [e] <;> rfl) fun cdv A outer s H vs Q E hr h => by
  refine ⟨_, (pss_cons (ps_expr (pe_call f_need_web.ok (hr.mono (by decide)) rfl f_need_web.g f_need_web.kp f_need_web.b .nil (passes_call (takes_of rfl rfl rfl rfl) fun _ _ _ _ h => h) (pa_cons (pv 0) (pa_cons (pv 1) (pa_cons (pv 2) pa_nil)))))
      (pss_cons (ps_par (i := 3) (j := 4) rfl sc_shut_fraction.nd rfl rfl (by decide) rfl rfl (pa_cons (pe_lst (pa_cons pe_int pa_nil)) (pa_cons (pe_op op_sub (pv 0) (pe_callB call_len_seq (by rfl) T.len_ bo_len (pa_cons (pv 2) pa_nil))) pa_nil)) (by rfl))
      (pss_cons (ps_for (passes_of rfl) rfl (pi_list (pe_call f_lots_in.ok (hr.mono (by decide)) rfl f_lots_in.g f_lots_in.kp f_lots_in.b .nil pass0 (pa_cons (pv 0) (pa_cons (pv 1) pa_nil)))) (pg_name (i := 5) sc_shut_fraction.nd rfl (.inl rfl)) (pss_cons (ps_set (i := 6) sc_shut_fraction.nd rfl (.inl rfl) (pe_callB call_len_seq (by rfl) T.len_ bo_len (pa_cons (pe_lc (own := [("letter", 8)]) (g := (gName 8)) rfl sc_shut_fraction.nd (pi_tup (pv 5)) (blkOk_by (N := N_shut_fraction) (sc := defScope sd_shut_fraction) (by decide +kernel)) (fun _ _ _ _ _ => (pg_name (i := 8) sc_shut_fraction.nd rfl (.inl rfl))) (fun _ _ _ _ _ => (pts_one (pt_cmpR (op_notIn_seq : OpR _ _ (rIn K true)) (pv 8) (pv 2) rfl))) (fun _ _ _ _ _ => (pv 8))) pa_nil)))
      (pss_cons (ps_set (i := 7) sc_shut_fraction.nd rfl (.inl rfl) (pe_call f_products_joined.ok (hr.mono (by decide)) rfl f_products_joined.g f_products_joined.kp f_products_joined.b .nil pass0 (pa_cons (pe_call f_list_power.ok (hr.mono (by decide)) rfl f_list_power.g f_list_power.kp f_list_power.b .nil pass0 (pa_cons (pe_lst (pa_cons pe_int (pa_cons pe_int pa_nil))) (pa_cons (pe_callB call_len_seq (by rfl) T.len_ bo_len (pa_cons (pv 5) pa_nil)) pa_nil))) (pa_cons (pe_call f_list_power.ok (hr.mono (by decide)) rfl f_list_power.g f_list_power.kp f_list_power.b .nil pass0 (pa_cons (pe_lst (pa_cons pe_int (pa_cons (pe_un un_neg pe_int) pa_nil))) (pa_cons (pe_op op_sub (pv 4) (pv 6)) pa_nil))) pa_nil))))
      (pss_one (ps_set (i := 3) sc_shut_fraction.nd rfl (.inl rfl) (pe_call f_lists_joined.ok (hr.mono (by decide)) rfl f_lists_joined.g f_lists_joined.kp f_lists_joined.b .nil pass0 (pa_cons (pv 3) (pa_cons (pv 7) pa_nil))))))))
      (pss_one (ps_ret (pe_call f_least_fraction.ok (hr.mono (by decide)) rfl f_least_fraction.g f_least_fraction.kp f_least_fraction.b .nil pass0 (pa_cons (pv 3) (pa_cons (pe_call f_list_power.ok (hr.mono (by decide)) rfl f_list_power.g f_list_power.kp f_list_power.b .nil pass0 (pa_cons (pe_lst (pa_cons pe_int (pa_cons (pe_un un_neg pe_int) pa_nil))) (pa_cons (pv 4) pa_nil))) pa_nil)))))))), ?_⟩
  rcases h with ⟨n, la, oa, trs, ns, e, ⟨ts, hl, ht⟩, ho, W, q⟩ | ⟨v, d, vl, dl, vo, do_, e, hd, q1, q2⟩
  · subst e
    refine ⟨_, rfl, _, rfl, _, rfl, ?_⟩
    refine ⟨_, _, _, .seq (trs.map tripD), _, .seq (ns.map fun x => PD.int (x : Nat)), rfl, .int _, (fun z => by rw [web_btw W] at z; cases z), fun m em _ => ?_⟩
    obtain ⟨c1, c2, c3, c4⟩ := web_see (m := m) W hl ht ho em
    refine ⟨c1, (web_few W).1, c2, (web_few W).2, fun _ _ H1 s1 => ?_, fun z => (both_no c3 c4 z).elim⟩
    have n5 := W.n5
    have n1 := W.n1
    have few := W.few
    have big : 10000 < sizeLine := by decide
    dsimp only
    have nsz : (natV ns).length = ns.length := by rw [List.length_map]
    have b0 := kept_le (n := n) (lot := []) List.nodup_nil (fun _ h => (by cases h)) W.ndn W.no
    have b00 : ns.length ≤ n := by omega
    refine seq1 ⟨(by show 1 ≤ sizeLine; decide), fun d0 hd0 => ?_⟩
    refine ⟨_, rfl, _, rfl, oa, _, rfl, (s1.trans (Same.new hd0)).seqX ho, _, _, rfl, rfl, V.ref d0, V.int ((n - ns.length : Nat) : Int), congrArg (fun z => [V.ref d0, V.int z]) (show (n : Int) - ((natV ns).length : Int) = ((n - ns.length : Nat) : Int) by rw [nsz]; omega), ?_⟩
    have s01 : Same H (upd H1 d0 (.lst ([0].map V.int))) := s1.trans (Same.new hd0)
    dsimp only
    refine seq1 ⟨_, rfl, _, rfl, n, la, trs, ns, rfl, ⟨ts, s01.seqX hl, paired_imp ht fun _ _ r => s01.seqX r⟩, W, fun H3 dl ls s3 hdl ⟨ks, k1, k2, k3⟩ pl => ⟨dl, rfl, ⟨_, k1⟩, ?_⟩⟩
    have kl : ks.length = ls.length := by
      have := congrArg List.length k3
      rw [List.length_map, List.length_map] at this
      exact this
    have l32 : ls.length ≤ 32 := by
      rw [pl.length_eq]
      exact Nat.le_trans (lotsTo_len _ n) (Nat.pow_le_pow_right (n := 2) (by decide) n5)
    refine for_walk (wk_list (K := K) (xs := ks.map fun p => V.ref p.1)) (fun i σ H' => ∃ (d : Addr) (x4 x5 x6 x7 : Option V) (below : List Int), σ = [some (.int (n : Nat)), some (.ref la), some (.ref oa), some (.ref d), some (.int ((n - ns.length : Nat) : Int)), x4, x5, x6, x7] ∧ Same H3 H' ∧ H' d = some (.lst (below.map V.int)) ∧ below.length ≤ n + 1 ∧ ∀ k, co below k = lotSum 1 (-1) (fun lot => n - ns.length - keptIn ns lot) (ls.take i) k)
      ?_ (fun _ _ _ _ ⟨_, _, _, _, _, _, _, z, _⟩ => z.seq k1) (fun i x σ H4 H5 hi ⟨d, x4, x5, x6, x7, below, eσ, s4, e4, l4, c4⟩ s5 it => ?_) fun σ H4 ⟨d, x4, x5, x6, x7, below, eσ, s4, e4, l4, c4⟩ => ?_
    · refine ⟨d0, _, _, _, _, [0], rfl, Same.refl _, s3 _ _ upd_same, by show 1 ≤ n + 1; omega, fun k => ?_⟩
      show _ = 0
      cases k with
      | zero => rfl
      | succ k => exact co_out (by show 1 ≤ k + 1; omega)
    · subst eσ
      have hi' : i < ks.length := by
        rw [List.length_map] at hi
        exact hi
      have hl' : i < ls.length := by rw [← kl]; exact hi'
      obtain ⟨lot, elot⟩ : ∃ lot, ls[i]? = some lot := ⟨_, List.getElem?_eq_getElem hl'⟩
      obtain ⟨p, ep⟩ : ∃ p, ks[i]? = some p := ⟨_, List.getElem?_eq_getElem hi'⟩
      have ex : x = V.ref p.1 := by
        have h1 : (ks.map fun p => V.ref p.1)[i]? = some x := it
        rw [List.getElem?_map, ep] at h1
        exact (Option.some.inj h1).symm
      subst ex
      have e2p : p.2 = toI lot := by
        have h1 : (ks.map (·.2))[i]? = some (toI lot) := by rw [k3, List.getElem?_map, elot]; rfl
        rw [List.getElem?_map, ep] at h1
        exact Option.some.inj h1
      have s35 := s4.trans s5
      have hp : SqT K H5 p.1 ((toI lot).map V.int) := by
        have := k2 p (List.mem_of_getElem? ep)
        rw [e2p] at this
        exact s35.seqT this
      have ml : lot ∈ lotsTo (pairsOfT trs) n := pl.mem_iff.mp (List.mem_of_getElem? elot)
      have la_ := lotsTo_at (pairsOfT trs) n lot ml
      have nd := lotsTo_nodup (pairsOfT trs) n lot ml
      have b1 := lost_le (ns := ns) nd
      have b2 := kept_le nd la_.2 W.ndn W.no
      have b3 := lost_kept ns lot
      have s05 : Same H H5 := s01.trans (s3.trans s35)
      dsimp only
      refine seq1 (asg1 (tcb1 (in_read (j := 8) true (fun R h => ⟨_, rfl, h⟩) hp (s05.seqX ho) (by omega) (fun _ => rfl) (fun _ => rfl) (fun _ => rfl) fun D6 H6 s6 hD6 e6 => ?_)))
      refine ⟨D6, _, rfl, .inl (SqL.of e6), ?_⟩
      rw [show ((natV (lot.filter (pickIn true ns))).length : Int) = (keptIn ns lot : Nat) by rw [List.length_map]; rfl]
      have lsz : ((toI lot).map V.int).length = lot.length := by rw [List.length_map, List.length_map]
      have nsz : (natV ns).length = ns.length := by rw [List.length_map]
      have lotn := la_.1
      dsimp only
      refine seq1 (asg1 ⟨(by show 2 ≤ sizeLine; decide), fun d1 hd1 => ?_⟩)
      have s7a : Same H5 (upd H6 d1 (.lst ([0, 1].map V.int))) := s6.trans (Same.new hd1)
      refine ⟨_, rfl, p.1, _, rfl, .inr (s7a.seqT hp), d1, [0, 1], _, rfl, SqL.of upd_same, rfl, by decide, by decide, by rw [lsz]; omega, fun H7 d7 r7 s7 hd7 e7 l7 c7 => ?_⟩
      refine ⟨_, rfl, (by show 2 ≤ sizeLine; decide), fun d8 hd8 => ?_⟩
      have s8 : Same H7 (upd H7 d8 (.lst ([1, -1].map V.int))) := Same.new hd8
      refine ⟨_, rfl, _, rfl, _, _, rfl, rfl, d8, [1, -1], n - ns.length - keptIn ns lot, ?_, SqL.of upd_same, rfl, by decide, by decide, by omega, fun H9 d9 r9 s9 hd9 e9 l9 c9 => ?_⟩
      · show [V.ref d8, V.int (((n - ns.length : Nat) : Int) - (keptIn ns lot : Nat))] = [V.ref d8, V.int ((n - ns.length - keptIn ns lot : Nat) : Int)]
        rw [show (((n - ns.length : Nat) : Int) - (keptIn ns lot : Nat)) = ((n - ns.length - keptIn ns lot : Nat) : Int) by omega]
      refine ⟨d7, d9, r7, r9, rfl, SqL.of ((s8.trans s9) _ _ e7), SqL.of e9, by omega, by omega, by omega, by omega, ?_, fun H10 d10 r10 s10 hd10 e10 l10 c10 => ?_⟩
      · intro k
        rw [c7]
        exact Nat.lt_of_le_of_lt (pwr_bits rfl (by decide) (by decide) _ k) (Nat.pow_lt_pow_right (by decide) (by rw [lsz]; omega))
      have sT : Same H5 H10 := s7a.trans (s7.trans (s8.trans (s9.trans s10)))
      dsimp only
      refine asg1 ⟨_, rfl, _, rfl, d, d10, below, r10, rfl, SqL.of ((s5.trans sT) _ _ e4), SqL.of e10, by omega, by omega, fun H11 d11 r11 s11 hd11 e11 l11 c11 => ?_⟩
      refine ⟨d11, _, _, _, _, r11, rfl, s35.trans (sT.trans s11), e11, by omega, fun k => ?_⟩
      rw [c11, c4, c10, conv_congrL _ c7, conv_congrR _ c9, List.take_succ, elot]
      show _ = lotSum _ _ _ (ls.take i ++ [lot]) k
      rw [lotSum_snoc, ← lotSer_conv, lsz]
    · subst eσ
      rw [List.length_map, kl, List.take_length] at c4
      have nl := ns_len W
      have c5 : ∀ k, co below k = (shutF n trs ns).1 k := fun k => (c4 k).trans (lotSum_perm pl k)
      obtain ⟨k0, hk0, cop⟩ := cop_some (e := -1) rfl (n - ns.length) (b := n) (B := co below) (fun k hk => co_out (by omega)) (by rw [c5]; exact lotSum_zero _ n)
      have s04 : Same H H4 := s01.trans (s3.trans s4)
      dsimp only
      refine ret1 ⟨_, rfl, _, rfl, (by show 2 ≤ sizeLine; decide), fun d5 hd5 => ?_⟩
      have s5 : Same H4 (upd H4 d5 (.lst ([1, -1].map V.int))) := Same.new hd5
      refine ⟨_, rfl, d5, [1, -1], n - ns.length, rfl, SqL.of upd_same, rfl, by decide, by decide, by omega, fun H6 d6 r6 s6 hd6 e6 l6 c6 => ?_⟩
      have c6' : ∀ k, co r6 k = pw (-1) (n - ns.length) k := fun k => by rw [c6, pwr_pw]
      rw [← (funext c6' : co r6 = pw (-1) (n - ns.length))] at cop
      have eF : shutF n trs ns = (co below, co r6) := by rw [funext c6', funext c5]; rfl
      have hk : kOf (-1) (shutF n trs ns) ≤ 10 ∧ (CopP (-1) (kOf (-1) (shutF n trs ns)) (co below) (co r6) ∨ CopP (-1) (kOf (-1) (shutF n trs ns)) (co r6) (co below)) := by
        rw [eF]
        exact kOf_is ⟨k0, by omega, .inr cop⟩
      refine ⟨d, d6, below, r6, -1, kOf (-1) (shutF n trs ns), rfl, SqL.of ((s5.trans s6) _ _ e4), SqL.of e6, rfl, hk.1, hk.2, by omega, by omega, fun k => ?_, fun k => ?_, fun H7 t r1 r2 s7 fa le => q H7 t below r6 r1 r2 (s04.trans (s5.trans (s6.trans s7))) fa le (by omega) (by omega) c5 c6'⟩
      · rw [c4]
        exact Nat.lt_of_le_of_lt (lotSum_small (.inl rfl) (.inr rfl) (fun lot _ => Nat.le_trans (Nat.sub_le _ _) (by omega)) k) (show 10 * ls.length < 512 by omega)
      · rw [c6']
        exact Nat.lt_of_le_of_lt (pw_small (.inr rfl) (by omega) k) (by decide)
  · subst e
    refine ⟨_, rfl, _, rfl, _, rfl, ?_⟩
    refine ⟨_, _, _, dl, _, do_, rfl, hd, q1, fun m em hb => ?_⟩
    obtain ⟨c1, c2, c3, c4, c5, c6⟩ := q2 m em hb
    refine ⟨c1, c2, c3, c4, fun z1 z2 => (both_no z1 z2 c5).elim, fun _ => c6⟩
end
end Kz
end
section
set_option Elab.async false
set_option linter.all false
set_option maxRecDepth 100000
set_option maxHeartbeats 4000000
/-! the law's small defs -/
namespace Kz
open PySem PySem.Spec PyProof.Rows L2 KzM
def spMany : Sp := fun vs H Q _ => ∃ n L : Nat, vs = [.int (n : Nat), .int (L : Nat)] ∧ n ≤ 5 ∧ L ≤ 10 ∧ ∀ H', Same H H' → Q (.int ((n ^ L : Nat) : Int)) H'
section
variable {P : Program} {w : World} {K : PySem.W.Frag} {mg : Str → Option Value} {base : Heap}
abbrev N_many : List Str := ["_law_letters", "_law_length", "_law_found", "_law_lap"]
theorem sc_many : FnScope N_many ["_law_letters", "_law_length"] (defScope sl_many) := ⟨rfl, rfl, rfl, by decide +kernel, rfl, by decide +kernel, by decide +kernel⟩
theorem f_law_many (D : DefAt K mg "_law_many" sl_many) (T : Txt K mg) : FnS P w K mg base CX0 1 "_law_many" ["_law_letters", "_law_length"] spMany :=
  mkFn D sc_many (fun _ _ _ _ _ _ us hl => match us, hl with | [_, _], _ => rfl) (fun vs H Q E ⟨_, _, e, _⟩ => by rw [e]; rfl) fun cdv A outer s H vs Q E hr ⟨n, L, e, hn, hL, q⟩ => by
  subst e
  refine ⟨_, (pss_cons (ps_set (i := 2) sc_many.nd rfl (.inl rfl) pe_int)
      (pss_cons (ps_for (passes_of rfl) rfl (pi_range1 rfl T.range_ (pa_cons (pv 1) pa_nil)) (pg_name (i := 3) sc_many.nd rfl (.inl rfl)) (pss_one (ps_set (i := 2) sc_many.nd rfl (.inl rfl) (pe_op op_mul (pv 2) (pv 0)))))
      (pss_one (ps_ret (pv 2))))), ?_⟩
  refine seq1 (asg1 ?_)
  refine seq1 ⟨_, rfl, (L : Nat), rfl, by omega, by omega, ?_⟩
  refine for_walk (wk_range (n := L)) (fun i σ H' => ∃ x3 : Option V, σ = [some (.int (n : Nat)), some (.int (L : Nat)), some (.int ((n ^ i : Nat) : Int)), x3] ∧ Same H H')
    ⟨_, rfl, Same.refl _⟩ (fun _ _ _ _ _ => True.intro) (fun i x σ H3 H4 hi ⟨x3, eσ, e3⟩ s4 it => ?_) fun σ H3 ⟨x3, eσ, e3⟩ => ?_
  · subst eσ it
    have hb : n ^ i ≤ 5 ^ 10 := Nat.le_trans (Nat.pow_le_pow_left hn i) (Nat.pow_le_pow_right (by decide) (by omega))
    refine asg1 (op1 ⟨_, rfl, _, rfl, _, _, rfl, rfl, .inl ⟨by omega, by omega⟩, ?_⟩)
    rw [Nat.pow_succ, Int.natCast_mul]
    exact ⟨_, rfl, e3.trans s4⟩
  · subst eσ
    dsimp only
    exact ret1 ⟨_, rfl, q _ e3⟩
abbrev N_last_cut : List Str := ["_law_row", "_law_found"]
theorem sc_last_cut : FnScope N_last_cut ["_law_row"] (defScope sl_last_cut) := ⟨rfl, rfl, rfl, by decide +kernel, rfl, by decide +kernel, by decide +kernel⟩
theorem f_law_last_cut (D : DefAt K mg "_law_last_cut" sl_last_cut) (T : Txt K mg) : FnS P w K mg base CX0 1 "_law_last_cut" ["_law_row"] (spTrimmed K) :=
  mkFn D sc_last_cut (fun _ _ _ _ _ _ us hl => match us, hl with | [_], _ => rfl) (fun vs H Q E ⟨_, _, e, _⟩ => by rw [e]; rfl) fun cdv A outer s H vs Q E hr ⟨a, l, e, ha, q⟩ => by
  subst e
  refine ⟨_, (pss_cons (ps_set (i := 1) sc_last_cut.nd rfl (.inl rfl) (pe_callTy call_list_of (by rfl) T.list_ bo_list (pa_cons (pv 0) pa_nil)))
      (pss_cons (ps_while (passes_of rfl) (PW.pt (pw_and (pt_cmpR (op_neD hr.units) (pv 1) (pe_lst pa_nil) (nomark _)) (pw_and1 (pt_cmpR op_eq (pe_ix ix_list (pv 1) (pe_un un_neg pe_int) (fun _ _ => rfl)) pe_int (nomark _))))) (pss_one (ps_set (i := 1) sc_last_cut.nd rfl (.inl rfl) (pe_slice sl_list (pv 1) po_none (po_some (pe_un un_neg pe_int))))))
      (pss_one (ps_ret (pv 1))))), ?_⟩
  refine ⟨_, rfl, a, _, rfl, ha, fun d hd => ?_⟩
  refine while_own (fun σ H' => ∃ m d, σ = [some (.ref a), some (.ref d)] ∧ Same H H' ∧ H d = none ∧ H' d = some (.lst ((l.take m).map V.int)) ∧ m ≤ l.length ∧ ∀ k, m ≤ k → co l k = 0) (fun (σ : L2.St) H' => match σ[1]? with | some (some (V.ref d)) => (match H' d with | some (.lst xs) => xs.length | _ => 0) | _ => 0)
    ⟨l.length, d, rfl, Same.new hd, hd, by rw [upd_same, List.take_length], Nat.le_refl _, fun k hk => co_out hk⟩ ?_
  rintro σ H1 ⟨m, d, rfl, s1, hd, hd1, hm, hz⟩
  have lm : (l.take m).length = m := by rw [List.length_take]; omega
  refine ⟨_, rfl, Nat.zero_le _, fun o ho => ne_nilI (ns := l.take m) (SqL.of (Same.new ho _ _ hd1)) (SqL.of upd_same) ⟨_, rfl, ?_⟩⟩
  have s2 : Same H1 (upd H1 o (.lst [])) := Same.new ho
  have hd2 := s2 _ _ hd1
  have fin : Trimd (l.take m) → Q (.ref d) (upd H1 o (.lst [])) := fun t =>
    q _ d (l.take m) (s1.trans s2) hd hd2 ⟨by rw [lm], fun k => cut_co hz k, t⟩
  by_cases e : l.take m = []
  · rw [decide_eq_true e]
    exact ⟨_, rfl, fin fun z => absurd e z⟩
  · rw [decide_eq_false e]
    refine ⟨_, rfl, 1, rfl, d, _, -1, _, rfl, rfl, SqL.of hd2, map_last e, rfl, _, rfl, ?_⟩
    by_cases z : co (l.take m) ((l.take m).length - 1) = 0
    · rw [z]
      refine ⟨_, whN, ?_⟩
      have m0 : m ≠ 0 := fun q => e (by rw [q]; rfl)
      have ml : ((l.take m).map V.int).length = m := by rw [List.length_map, lm]
      refine ⟨_, rfl, 1, rfl, _, rfl, d, _, rfl, SqL.of hd2, fun d3 hd3 => ?_⟩
      have ed : cutV ((l.take m).map V.int) none (some (-1)) = (l.take (m - 1)).map V.int := by
        unfold cutV
        rw [ml]
        show (((l.take m).map V.int).drop 0).take ((-1 + (m : Int)).toNat - 0) = _
        rw [List.drop_zero, ← List.map_take, List.take_take, show min ((-1 + (m : Int)).toNat - 0) m = m - 1 by omega]
      refine ⟨⟨m - 1, d3, rfl, (s1.trans s2).trans (Same.new hd3), (s1.trans s2).free hd3, by rw [upd_same]; exact congrArg (fun z => some (HO.lst z)) ed, by omega, fun k hk => ?_⟩, ?_⟩
      · by_cases e2 : k = m - 1
        · rw [lm, cut_co hz] at z
          rw [e2]
          exact z
        · exact hz k (by omega)
      · show (match (upd (upd H1 o (.lst [])) d3 (.lst (cutV ((l.take m).map V.int) none (some (-1))))) d3 with | some (.lst xs) => xs.length | _ => 0) < (match H1 d with | some (.lst xs) => xs.length | _ => 0)
        rw [upd_same, hd1]
        show (cutV ((l.take m).map V.int) none (some (-1))).length < ((l.take m).map V.int).length
        rw [ed, List.length_map, List.length_map, List.length_take, lm]
        omega
    · have : decide (V.int (co (l.take m) ((l.take m).length - 1)) = V.int 0) = false := decide_eq_false fun q => z (V.int.inj q)
      rw [this]
      exact ⟨_, rfl, fin fun _ => z⟩
end
end Kz
end
section
set_option Elab.async false
set_option linter.all false
set_option maxRecDepth 100000
set_option maxHeartbeats 4000000
/-! the law's unrolling -/
namespace Kz
open PySem PySem.Spec PyProof.Rows L2 KzM
section
variable {P : Program} {w : World} {K : PySem.W.Frag} {mg : Str → Option Value} {base : Heap}
abbrev N_unrolled : List Str := ["_law_over_here", "_law_below_here", "_law_most", "_law_found", "_law_k", "_law_item", "_law_step"]
theorem sc_unrolled : FnScope N_unrolled ["_law_over_here", "_law_below_here", "_law_most"] (defScope sl_unrolled) := ⟨rfl, rfl, rfl, by decide +kernel, rfl, by decide +kernel, by decide +kernel⟩
theorem f_law_unrolled (D : DefAt K mg "_law_unrolled" sl_unrolled) (T : Txt K mg) : FnS P w K mg base CX0 1 "_law_unrolled" ["_law_over_here", "_law_below_here", "_law_most"] (spUnrolled K) :=
  mkFn D sc_unrolled (fun _ _ _ _ _ _ us hl => match us, hl with | [_, _, _], _ => rfl) (fun vs H Q E ⟨_, _, _, _, _, e, _⟩ => by rw [e]; rfl) fun cdv A outer s H vs Q E hr ⟨a, b, over, below, m, e, ha, hb, b0, bb, bl, hm, q⟩ => by
  subst e
  have big : 20000 < sizeLine := by decide
  have bl1 : 1 ≤ below.length := Decidable.byContradiction fun z => by
    rw [co_out (by omega)] at b0
    cases b0
  refine ⟨_, (pss_cons (ps_set (i := 3) sc_unrolled.nd rfl (.inl rfl) (pe_lst pa_nil))
      (pss_cons (ps_for (passes_of rfl) rfl (pi_range1 rfl T.range_ (pa_cons (pe_op op_add (pv 2) pe_int) pa_nil)) (pg_name (i := 4) sc_unrolled.nd rfl (.inl rfl)) (pss_cons (ps_set (i := 5) sc_unrolled.nd rfl (.inl rfl) (pe_ifExp (pt_cmpR op_lt (pv 4) (pe_callB call_len_seq (by rfl) T.len_ bo_len (pa_cons (pv 0) pa_nil)) (nomark _)) (pe_ix ix_seqX (pv 0) (pv 4) (fun _ _ => rfl)) pe_int))
      (pss_cons (ps_for (passes_of rfl) rfl (pi_range2 rfl T.range_ (pa_cons pe_int (pa_cons (pe_op op_add (pe_callB (call_min2 rfl) (by rfl) T.min_ bo_min (pa_cons (pv 4) (pa_cons (pe_op op_sub (pe_callB call_len_seq (by rfl) T.len_ bo_len (pa_cons (pv 1) pa_nil)) pe_int) pa_nil))) pe_int) pa_nil))) (pg_name (i := 6) sc_unrolled.nd rfl (.inl rfl)) (pss_one (ps_set (i := 5) sc_unrolled.nd rfl (.inl rfl) (pe_op op_sub (pv 5) (pe_op op_mul (pe_ix ix_seqX (pv 1) (pv 6) (fun _ _ => rfl)) (pe_ix ix_list (pv 3) (pe_op op_sub (pv 4) (pv 6)) (fun _ _ => rfl)))))))
      (pss_one (ps_expr (pe_bm PySem.F.plainAttrs_list PySem.F.slot_list_append PySem.F.type_list_append mt_append (pv 3) (pa_cons (pv 5) pa_nil)))))))
      (pss_one (ps_ret (pv 3))))), ?_⟩
  refine ⟨Nat.zero_le _, fun d hd => ?_⟩
  have s0 : Same H (upd H d (.lst [])) := Same.new hd
  refine ⟨_, rfl, _, _, rfl, rfl, (m : Int) + 1, rfl, by omega, by omega, ?_⟩
  have e1 : ((m : Int) + 1).toNat = m + 1 := by omega
  rw [e1]
  refine for_walk (wk_range (n := m + 1)) (fun k σ H' => ∃ (r : List Int) (x4 x5 x6 : Option V), σ = [some (.ref a), some (.ref b), some (.int (m : Nat)), some (.ref d), x4, x5, x6] ∧ Same H H' ∧ H' d = some (.lst (r.map V.int)) ∧ r.length = k ∧ ∀ j, j < k → conv (co below) (co r) j = co over j)
    ⟨[], _, _, _, rfl, s0, upd_same, rfl, fun j hj => absurd hj (Nat.not_lt_zero j)⟩ (fun _ _ _ _ _ => True.intro) (fun k x σ H1 H2 hk ⟨r, x4, x5, x6, eσ, s1, hd1, lr, hc⟩ s2 it => ?_) fun σ H1 ⟨r, x4, x5, x6, eσ, s1, hd1, lr, hc⟩ => ?_
  · subst eσ it
    have s12 := s1.trans s2
    have k0 : (0 : Int) + (k : Int) = (k : Int) := by omega
    rw [k0]
    have hd2 := s2 _ _ hd1
    have hb2 := s12.seqX hb
    obtain ⟨mm, em, emi, mk, mb⟩ := min_cut below.length k bl1
    refine seq1 (asg1 (if_over (l := over) (fun R h => ⟨_, rfl, h⟩) (fun R h => ⟨_, rfl, h⟩) (s12.seqX ha) ?_))
    refine ⟨_, rfl, _, rfl, b, _, rfl, hb2, _, _, rfl, rfl, (k : Int), (below.length : Int) - 1, (by show [V.int k, V.int (((below.map V.int).length : Int) - 1)] = _; rw [List.length_map]), _, _, rfl, rfl, 1, (mm : Int) + 1, (by show [V.int 1, V.int _] = _; rw [emi]), ⟨by omega, by omega, by omega, by omega⟩, ?_⟩
    have e2 : ((mm : Int) + 1 - 1).toNat = mm := by omega
    rw [e2]
    refine for_walk (wk_range (n := mm)) (fun j σ H' => ∃ (x6 : Option V), σ = [some (.ref a), some (.ref b), some (.int (m : Nat)), some (.ref d), some (.int (k : Nat)), some (.int (co over k - sumN j (fun i => co below (1 + i) * co r (k - (1 + i))))), x6] ∧ Same H H' ∧ H' d = some (.lst (r.map V.int)))
      ⟨_, by show _ = [_, _, _, _, _, some (V.int (co over k - 0)), _]; rw [Int.sub_zero]; rfl, s12, hd2⟩ (fun _ _ _ _ _ => True.intro) (fun j x σ H3 H4 hj ⟨x6, eσ, s3, hd3⟩ s4 it => ?_) fun σ H3 ⟨x6, eσ, s3, hd3⟩ => ?_
    · subst eσ it
      have s34 := s3.trans s4
      have ej : ((1 : Int) + (j : Int)) = ((1 + j : Nat) : Int) := by omega
      have ekj : ((k : Int) - (1 + (j : Int))) = ((k - (1 + j) : Nat) : Int) := by omega
      refine ⟨_, rfl, _, rfl, _, rfl, b, _, _, _, rfl, rfl, s34.seqX hb, (by rw [ej]; exact atI_nat (map_at (by omega))), _, rfl, _, rfl, _, rfl, _, _, rfl, rfl, d, _, _, _, rfl, rfl, SqL.of (s4 _ _ hd3), (by rw [ekj]; exact atI_nat (map_at (by omega))), _, _, rfl, rfl, .inl (bits_mul bb (by decide) _), _, _, rfl, rfl, some (.int (1 + (j : Int))), ?_, s34, s4 _ _ hd3⟩
      show [_, _, _, _, _, some (V.int (co over k - sumN j _ - co below (1 + j) * co r (k - (1 + j)))), _] = [_, _, _, _, _, some (V.int (co over k - (sumN j _ + co below (1 + j) * co r (k - (1 + j))))), _]
      rw [Int.sub_sub]
    · subst eσ
      refine ⟨_, rfl, .inl ⟨rfl, _, SqL.of hd3⟩, _, rfl, d, _, _, rfl, rfl, hd3, (by rw [List.length_map, lr]; omega), r ++ [co over k - sumN mm (fun i => co below (1 + i) * co r (k - (1 + i)))], _, _, _, rfl, s3.put hd, (by rw [upd_same, List.map_append]; rfl), (by rw [List.length_append, lr]; rfl), fun j hj => ?_⟩
      by_cases e : j = k
      · rw [e]
        exact unr_item lr b0 em rfl
      · rw [unr_keep (by omega)]
        exact hc j (by omega)
  · subst eσ
    refine ⟨_, rfl, q _ d r s1 hd hd1 lr fun k hk => hc k (by omega)⟩
end
end Kz
end
section
set_option Elab.async false
set_option linter.all false
set_option maxRecDepth 100000
set_option maxHeartbeats 4000000
/-! the law's small defs, more -/
namespace Kz
open PySem PySem.Spec PyProof.Rows L2 KzM
def longTo (n most : Nat) : Nat → Nat
  | 0 => 0
  | k + 1 => if n ^ k ≤ most then k else longTo n most k
def spLongest : Sp := fun vs H Q _ => ∃ n most : Nat, vs = [.int (n : Nat), .int (most : Nat)] ∧ n ≤ 5 ∧ ∀ H', Same H H' → Q (.int ((longTo n most 7 : Nat) : Int)) H'
section
variable {P : Program} {w : World} {K : PySem.W.Frag} {mg : Str → Option Value} {base : Heap}
abbrev N_longest : List Str := ["_law_letters", "_law_most", "_law_found", "_law_length"]
theorem sc_longest : FnScope N_longest ["_law_letters", "_law_most"] (defScope sl_longest) := ⟨rfl, rfl, rfl, by decide +kernel, rfl, by decide +kernel, by decide +kernel⟩
theorem f_law_longest (D : DefAt K mg "_law_longest" sl_longest) (T : Txt K mg) (f_many : FnS P w K mg base CX0 1 "_law_many" ["_law_letters", "_law_length"] spMany) : FnS P w K mg base CX0 2 "_law_longest" ["_law_letters", "_law_most"] spLongest :=
  mkFn D sc_longest (fun _ _ _ _ _ _ us hl => match us, hl with | [_, _], _ => rfl) (fun vs H Q E ⟨_, _, e, _⟩ => by rw [e]; rfl) fun cdv A outer s H vs Q E hr ⟨n, most, e, hn, q⟩ => by
  subst e
  refine ⟨_, (pss_cons (ps_set (i := 2) sc_longest.nd rfl (.inl rfl) pe_int)
      (pss_cons (ps_for (passes_of rfl) rfl (pi_range1 rfl T.range_ (pa_cons pe_int pa_nil)) (pg_name (i := 3) sc_longest.nd rfl (.inl rfl)) (pss_one (ps_if (pt_cmpR op_le (pe_call f_many.ok (hr.mono (by decide)) rfl f_many.g f_many.kp f_many.b .nil pass0 (pa_cons (pv 0) (pa_cons (pv 3) pa_nil))) (pv 1) (nomark _)) (pss_one (ps_set (i := 2) sc_longest.nd rfl (.inl rfl) (pv 3))) pss_nil)))
      (pss_one (ps_ret (pv 2))))), ?_⟩
  refine seq1 (asg1 ?_)
  refine seq1 ⟨7, rfl, by decide, by decide, ?_⟩
  refine for_walk (wk_range (n := 7)) (fun i σ H' => ∃ x3 : Option V, σ = [some (.int (n : Nat)), some (.int (most : Nat)), some (.int ((longTo n most i : Nat) : Int)), x3] ∧ Same H H')
    ⟨_, rfl, Same.refl _⟩ (fun _ _ _ _ _ => True.intro) (fun i x σ H3 H4 hi ⟨x3, eσ, e3⟩ s4 it => ?_) fun σ H3 ⟨x3, eσ, e3⟩ => ?_
  · subst eσ it
    have z0 : (0 : Int) + (i : Int) = (i : Int) := by omega
    rw [z0]
    refine if1 (test1 (op1 ⟨_, rfl, _, rfl, n, i, rfl, hn, by omega, fun H5 s5 => ⟨_, rfl, _, _, rfl, rfl, _, rfl, ?_⟩⟩))
    by_cases h : n ^ i ≤ most
    · rw [decide_eq_true (by omega)]
      refine iteT' rfl ?_
      rw [show longTo n most (i + 1) = i from if_pos h]
      exact ⟨_, rfl, _, rfl, e3.trans (s4.trans s5)⟩
    · rw [decide_eq_false (by omega)]
      rw [show longTo n most (i + 1) = longTo n most i from if_neg h]
      exact ⟨_, rfl, e3.trans (s4.trans s5)⟩
  · subst eσ
    dsimp only
    exact ret1 ⟨_, rfl, q _ e3⟩
end
end Kz
end
section
set_option Elab.async false
set_option linter.all false
set_option maxRecDepth 100000
set_option maxHeartbeats 4000000
/-! the law's joined series -/
namespace Kz
open PySem PySem.Spec PyProof.Rows L2 KzM
def spSeries (K : PySem.W.Frag) : Sp := fun vs H Q _ => ∃ (a b : Addr) (one other : List Int), vs = [.ref a, .ref b] ∧ SqL K H a (one.map V.int) ∧ SqL K H b (other.map V.int) ∧ one.length = other.length ∧ one.length ≤ 100 ∧ Bits 60 one ∧
  ∀ H' d (r : List Int), Same H H' → H d = none → H' d = some (.lst (r.map V.int)) → r.length = one.length → (∀ k, k < one.length → co r k = conv (co one) (co other) k) → Q (.ref d) H'
theorem sum_range (F : Nat → Int) : ∀ n, ((List.range n).map F).sum = sumN n F
  | 0 => rfl
  | n + 1 => by
    rw [List.range_succ, List.map_append, List.sum_append, sum_range F n]
    show _ + (F n + 0) = sumN n F + F n
    rw [Int.add_zero]
section
variable {P : Program} {w : World} {K : PySem.W.Frag} {mg : Str → Option Value} {base : Heap}
abbrev N_series_joined : List Str := ["_law_one", "_law_other", "_law_found", "_law_k", "_law_i"]
theorem sc_series_joined : FnScope N_series_joined ["_law_one", "_law_other"] (defScope sl_series_joined) := ⟨rfl, rfl, rfl, by decide +kernel, rfl, by decide +kernel, by decide +kernel⟩
theorem f_law_series_joined (D : DefAt K mg "_law_series_joined" sl_series_joined) (T : Txt K mg) : FnS P w K mg base CX0 1 "_law_series_joined" ["_law_one", "_law_other"] (spSeries K) :=
  mkFn D sc_series_joined (fun _ _ _ _ _ _ us hl => match us, hl with | [_, _], _ => rfl) (fun vs H Q E ⟨_, _, _, _, e, _⟩ => by rw [e]; rfl) fun cdv A outer s H vs Q E hr ⟨a, b, one, other, e, ha, hb, el, l1, bb, q⟩ => by
  subst e
  have big : 20000 < sizeLine := by decide
  refine ⟨_, (pss_cons (ps_set (i := 2) sc_series_joined.nd rfl (.inl rfl) (pe_lst pa_nil))
      (pss_cons (ps_for (passes_of rfl) rfl (pi_range1 rfl T.range_ (pa_cons (pe_callB call_len_seq (by rfl) T.len_ bo_len (pa_cons (pv 0) pa_nil)) pa_nil)) (pg_name (i := 3) sc_series_joined.nd rfl (.inr rfl)) (pss_one (ps_expr (pe_bm PySem.F.plainAttrs_list PySem.F.slot_list_append PySem.F.type_list_append mt_append (pv 2) (pa_cons (pe_callB (cr_sum rfl) (by rfl) T.sum_ bo_sum (pa_cons (pe_lc (own := [("_law_i", 4)]) (g := (gName 4)) rfl sc_series_joined.nd (pi_range1 rfl T.range_ (pa_cons (pe_op op_add (pv 3) pe_int) pa_nil)) (blkOk_by (N := N_series_joined) (sc := defScope sl_series_joined) (by decide +kernel)) (fun _ _ _ _ _ => (pg_name (i := 4) sc_series_joined.nd rfl (.inl rfl))) (fun _ _ _ _ _ => pts_nil) (fun _ _ _ _ _ => (pe_op op_mul (pe_ix (ix_list : IxR _ (rIxL K)) (pv 0) (pv 4) (fun _ _ => rfl)) (pe_ix (ix_list : IxR _ (rIxL K)) (pv 1) (pe_op op_sub (pv 3) (pv 4)) (fun _ _ => rfl))))) pa_nil)) pa_nil)))))
      (pss_one (ps_ret (pv 2))))), ?_⟩
  refine seq1 (asg1 ⟨Nat.zero_le _, fun d hd => ?_⟩)
  have s0 : Same H (upd H d (.lst [])) := Same.new hd
  refine seq1 ⟨_, rfl, a, _, rfl, .inl (s0.seq ha), (one.length : Nat), by rw [List.length_map], by omega, by omega, ?_⟩
  refine for_walk (wk_range (n := one.length)) (fun k σ H' => ∃ (r : List Int) (x3 x4 : Option V), σ = [some (.ref a), some (.ref b), some (.ref d), x3, x4] ∧ Same H H' ∧ H' d = some (.lst (r.map V.int)) ∧ r.length = k ∧ ∀ j, j < k → co r j = conv (co one) (co other) j)
    ⟨[], _, _, rfl, s0, upd_same, rfl, fun j hj => absurd hj (Nat.not_lt_zero j)⟩ (fun _ _ _ _ _ => True.intro) (fun k x σ H1 H2 hk ⟨r, x3, x4, eσ, s1, hd1, lr, hc⟩ s2 it => ?_) fun σ H1 ⟨r, x3, x4, eσ, s1, hd1, lr, hc⟩ => ?_
  · subst eσ it
    have z0 : (0 : Int) + (k : Int) = (k : Int) := by omega
    rw [z0]
    have s12 := s1.trans s2
    have hd2 := s2 _ _ hd1
    refine ⟨_, rfl, .inl ⟨rfl, _, SqL.of hd2⟩, ?_⟩
    refine ⟨_, rfl, _, _, rfl, rfl, ((k + 1 : Nat) : Int), by show [V.int ((k : Int) + 1)] = _; rfl, by omega, by omega, lc_walkV (wk_range (n := k + 1)) (fun i => V.int (co one i * co other (k - i))) (by omega) True.intro (fun D i x H' C hi it s3 hD3 ac kC => ?_) fun D H' s3 hD3 e3 => ?_⟩
    · subst it
      have z1 : (0 : Int) + (i : Int) = (i : Int) := by omega
      rw [z1]
      have eki : ((k : Int) - (i : Int)) = ((k - i : Nat) : Int) := by omega
      refine ⟨rfl, ?_⟩
      refine ⟨_, rfl, _, rfl, a, _, _, _, rfl, rfl, (s12.trans s3).seq ha, atI_nat (map_at (by omega)), _, rfl, _, rfl, _, rfl, _, _, rfl, rfl, b, _, _, _, rfl, rfl, (s12.trans s3).seq hb, (by rw [eki]; exact atI_nat (map_at (by omega))), _, _, rfl, rfl, .inl (bits_mul bb (by decide) _), kC _ (Same.refl _)⟩
    · have hd3 := s3 _ _ hd2
      refine ⟨D, (List.range (k + 1)).map (fun i => co one i * co other (k - i)), rfl, SqL.of (by rw [e3, List.map_map]; rfl), d, _, _, rfl, rfl, hd3, (by rw [List.length_map, lr]; omega), r ++ [conv (co one) (co other) k], _, _, rfl, (s12.trans s3).put hd, (by rw [upd_same, List.map_append, sum_range, ← conv_sum]; rfl), (by rw [List.length_append, lr]; rfl), fun j hj => ?_⟩
      by_cases e : j = k
      · rw [e]
        exact co_at (by rw [← lr, List.getElem?_append_right (Nat.le_refl _), Nat.sub_self]; rfl)
      · have e1 : co (r ++ [conv (co one) (co other) k]) j = co r j := by
          unfold co
          rw [List.getD_eq_getElem?_getD, List.getD_eq_getElem?_getD, List.getElem?_append_left (by omega)]
        rw [e1]
        exact hc j (by omega)
  · subst eσ
    dsimp only
    exact ret1 ⟨_, rfl, q _ d r s1 hd hd1 lr hc⟩
end
end Kz
end
section
set_option Elab.async false
set_option linter.all false
set_option maxRecDepth 100000
set_option maxHeartbeats 4000000
/-! the law's sums over lots -/
namespace Kz
open PySem PySem.Spec PyProof.Rows L2 KzM
/-- what one lot weighs: the product of its letters' series -/
def lotW (f g : Ser) (ns lot : List Nat) : Ser := lot.foldl (fun W x => conv W (if x ∈ ns then g else f)) one
theorem conv_bits {f g : Ser} {a b : Nat} (hf : ∀ k, (f k).natAbs < 2 ^ a) (hg : ∀ k, (g k).natAbs < 2 ^ b) (k : Nat) : (conv f g k).natAbs ≤ (k + 1) * 2 ^ (a + b) := by
  rw [conv_sum]
  have : ∀ n, (sumN n fun i => f i * g (k - i)).natAbs ≤ n * 2 ^ (a + b) := by
    intro n
    induction n with
    | zero => exact Nat.zero_le _
    | succ n ih =>
      show (sumN n _ + f n * g (k - n)).natAbs ≤ _
      have h1 := Int.natAbs_add_le (sumN n fun i => f i * g (k - i)) (f n * g (k - n))
      have h2 : (f n * g (k - n)).natAbs ≤ 2 ^ (a + b) := by
        rw [Int.natAbs_mul, Nat.pow_add]
        exact Nat.mul_le_mul (Nat.le_of_lt (hf n)) (Nat.le_of_lt (hg (k - n)))
      rw [Nat.succ_mul]
      omega
  exact this (k + 1)
def spLotsSum (K : PySem.W.Frag) : Sp := fun vs H Q _ => ∃ (dl oa pa na : Addr) (ls : List (List Nat)) (ns : List Nat) (pl no : List Int), vs = [.ref dl, .ref oa, .ref pa, .ref na] ∧ LotsAt K H dl ls ∧ SqL K H oa (natV ns) ∧ SqL K H pa (pl.map V.int) ∧ SqL K H na (no.map V.int) ∧ pl.length = no.length ∧ 1 ≤ pl.length ∧ pl.length ≤ 20 ∧ Bits 1 pl ∧ Bits 1 no ∧ ls.length ≤ 32 ∧ (∀ lot ∈ ls, lot.length ≤ 5) ∧
  ∀ H' d (r : List Int), Same H H' → H d = none → H' d = some (.lst (r.map V.int)) → r.length = pl.length → (∀ k, k < pl.length → co r k = (ls.map fun lot => lotW (co pl) (co no) ns lot k).sum) → Q (.ref d) H'
section
variable {P : Program} {w : World} {K : PySem.W.Frag} {mg : Str → Option Value} {base : Heap}
abbrev N_lots_sum : List Str := ["_law_lots_due", "_law_nothings_here", "_law_plain_one", "_law_nothing_one", "_law_whole", "_law_lot", "_law_part", "_law_k", "_law_here", "_law_there"]
theorem sc_lots_sum : FnScope N_lots_sum ["_law_lots_due", "_law_nothings_here", "_law_plain_one", "_law_nothing_one"] (defScope sl_lots_sum) := ⟨rfl, rfl, rfl, by decide +kernel, rfl, by decide +kernel, by decide +kernel⟩
theorem f_law_lots_sum (D : DefAt K mg "_law_lots_sum" sl_lots_sum) (T : Txt K mg) (f_series_joined : FnS P w K mg base CX0 1 "_law_series_joined" ["_law_one", "_law_other"] (spSeries K)) : FnS P w K mg base CX0 2 "_law_lots_sum" ["_law_lots_due", "_law_nothings_here", "_law_plain_one", "_law_nothing_one"] (spLotsSum K) :=
  mkFn D sc_lots_sum (fun _ _ _ _ _ _ us hl => match us, hl with | [_, _, _, _], _ => rfl) (fun vs H Q E ⟨_, _, _, _, _, _, _, _, e, _⟩ => by rw [e]; rfl) fun cdv A outer s H vs Q E hr ⟨dl, oa, pa, na, ls, ns, pl, no, e, hl, ho, hp, hn, el, l1, l2, bp, bn, ll, lz, q⟩ => by
  subst e
  have big : 20000 < sizeLine := by decide
  refine ⟨_, (pss_cons (ps_set (i := 4) sc_lots_sum.nd rfl (.inl rfl) (pe_op op_rep (pe_lst (pa_cons pe_int pa_nil)) (pe_callB call_len_seq (by rfl) T.len_ bo_len (pa_cons (pv 2) pa_nil))))
      (pss_cons (ps_for (passes_of rfl) rfl (pi_list (pv 0)) (pg_name (i := 5) sc_lots_sum.nd rfl (.inl rfl)) (pss_cons (ps_set (i := 6) sc_lots_sum.nd rfl (.inl rfl) (pe_op op_cat (pe_lst (pa_cons pe_int pa_nil)) (pe_op op_rep (pe_lst (pa_cons pe_int pa_nil)) (pe_op op_sub (pe_callB call_len_seq (by rfl) T.len_ bo_len (pa_cons (pv 2) pa_nil)) pe_int))))
      (pss_cons (ps_for (passes_of rfl) rfl (pi_tup (pv 5)) (pg_name (i := 7) sc_lots_sum.nd rfl (.inl rfl)) (pss_one (ps_set (i := 6) sc_lots_sum.nd rfl (.inl rfl) (pe_call f_series_joined.ok (hr.mono (by decide)) rfl f_series_joined.g f_series_joined.kp f_series_joined.b .nil pass0 (pa_cons (pv 6) (pa_cons (pe_ifExp (pt_cmpR op_in_seq (pv 7) (pv 1) rfl) (pv 3) (pv 2)) pa_nil))))))
      (pss_one (ps_setLc (i := 4) (own := [("_law_here", 8), ("_law_there", 9)]) (g := (gTup _ 2 (gCons (gName 8) (gCons (gName 9) gNil)))) rfl sc_lots_sum.nd rfl rfl (sw_true rfl rfl rfl (by decide +kernel)) (pi_zip (by rfl) T.zip_ (pa_cons (pv 4) (pa_cons (pv 6) pa_nil))) (blkOk_by (N := N_lots_sum) (sc := defScope sl_lots_sum) (by decide +kernel)) (fun _ _ _ _ _ => (pg_tup rfl (pgs_cons (pg_name (i := 8) sc_lots_sum.nd rfl (.inl rfl)) (pgs_cons (pg_name (i := 9) sc_lots_sum.nd rfl (.inl rfl)) pgs_nil)))) (fun _ _ _ _ _ => pts_nil) (fun _ _ _ _ _ => (pe_op op_add (pv 8) (pv 9))))))))
      (pss_one (ps_ret (pv 4))))), ?_⟩
  refine seq1 (asg1 ⟨(by show 1 ≤ sizeLine; decide), fun o ho0 => ⟨_, rfl, pa, _, rfl, .inl ((Same.new ho0).seq hp), o, (pl.length : Nat), _, rfl, by rw [List.length_map], upd_same, by omega, by omega, ?_, fun d hd => ?_⟩⟩)
  · show 1 * ((pl.length : Nat) : Int).toNat ≤ sizeLine
    rw [Int.toNat_natCast]
    omega
  rw [Int.toNat_natCast]
  have s2 : Same H (upd (upd H o (.lst [.int 0])) d (.lst (List.replicate pl.length [V.int 0]).flatten)) := (Same.new ho0).trans (Same.new hd)
  have hdH : H d = none := (Same.new (o := HO.lst [.int 0]) ho0).free hd
  obtain ⟨ks, k1, k2, k3⟩ := hl
  have kl : ks.length = ls.length := by
    have := congrArg List.length k3
    rw [List.length_map, List.length_map] at this
    exact this
  refine seq1 ⟨_, rfl, dl, rfl, ⟨_, s2.seq k1⟩, ?_⟩
  refine for_walk (wk_list (K := K) (xs := ks.map fun p => V.ref p.1)) (fun i σ H' => ∃ (d : Addr) (x5 x6 x7 x8 x9 : Option V) (r : List Int), σ = [some (.ref dl), some (.ref oa), some (.ref pa), some (.ref na), some (.ref d), x5, x6, x7, x8, x9] ∧ Same H H' ∧ H d = none ∧ H' d = some (.lst (r.map V.int)) ∧ r.length = pl.length ∧ ∀ k, k < pl.length → co r k = ((ls.take i).map fun lot => lotW (co pl) (co no) ns lot k).sum)
    ⟨d, _, _, _, _, _, List.replicate pl.length 0, rfl, s2, hdH, by rw [upd_same, rep_zero], List.length_replicate, fun k _ => co_rep _ _⟩ (fun _ _ _ _ ⟨_, _, _, _, _, _, _, _, z, _⟩ => z.seq k1) (fun i x σ H4 H5 hi ⟨d, x5, x6, x7, x8, x9, r, eσ, s4, hd4, e4, l4, c4⟩ s5 it => ?_) fun σ H4 ⟨d, x5, x6, x7, x8, x9, r, eσ, s4, hd4, e4, l4, c4⟩ => ?_
  · subst eσ
    have hi' : i < ks.length := by
      rw [List.length_map] at hi
      exact hi
    obtain ⟨lot, elot⟩ : ∃ lot, ls[i]? = some lot := ⟨_, List.getElem?_eq_getElem (by rw [← kl]; exact hi')⟩
    obtain ⟨p, ep⟩ : ∃ p, ks[i]? = some p := ⟨_, List.getElem?_eq_getElem hi'⟩
    have ex : x = V.ref p.1 := by
      have h1 : (ks.map fun p => V.ref p.1)[i]? = some x := it
      rw [List.getElem?_map, ep] at h1
      exact (Option.some.inj h1).symm
    subst ex
    have e2p : p.2 = toI lot := by
      have h1 : (ks.map (·.2))[i]? = some (toI lot) := by rw [k3, List.getElem?_map, elot]; rfl
      rw [List.getElem?_map, ep] at h1
      exact Option.some.inj h1
    have s05 := s4.trans s5
    have hpl : SqT K H5 p.1 ((toI lot).map V.int) := by
      have := k2 p (List.mem_of_getElem? ep)
      rw [e2p] at this
      exact s05.seqT this
    have lotz := lz lot (List.mem_of_getElem? elot)
    have lsz : ((toI lot).map V.int).length = lot.length := by rw [List.length_map, List.length_map]
    dsimp only
    refine seq1 (asg1 ⟨(by show 1 ≤ sizeLine; decide), fun o1 ho1 => ⟨(by show 1 ≤ sizeLine; decide), fun o2 ho2 => ?_⟩⟩)
    have s6 : Same H5 (upd (upd H5 o1 (.lst [.int 1])) o2 (.lst [.int 0])) := (Same.new ho1).trans (Same.new ho2)
    refine ⟨_, rfl, pa, _, rfl, .inl ((s05.trans s6).seq hp), _, _, rfl, rfl, o2, ((pl.length - 1 : Nat) : Int), _, rfl, ?_, upd_same, by omega, by omega, ?_, fun o3 ho3 => ?_⟩
    · show V.int (((pl.map V.int).length : Int) - 1) = _
      rw [List.length_map, show ((pl.length : Int) - 1) = ((pl.length - 1 : Nat) : Int) by omega]
    · show 1 * ((pl.length - 1 : Nat) : Int).toNat ≤ sizeLine
      rw [Int.toNat_natCast]
      omega
    rw [Int.toNat_natCast]
    have s7 := s6.trans (Same.new (o := .lst (List.replicate (pl.length - 1) [V.int 0]).flatten) ho3)
    refine ⟨o1, o3, _, _, rfl, rfl, (Same.new (o := .lst (List.replicate (pl.length - 1) [V.int 0]).flatten) ho3) _ _ ((Same.new (o := .lst [.int 0]) ho2) _ _ upd_same), upd_same, ?_, fun o4 ho4 => ?_⟩
    · rw [rep_zero, List.length_map, List.length_replicate]
      show 1 + (pl.length - 1) ≤ sizeLine
      omega
    have s8 := s7.trans (Same.new (o := .lst ([V.int 1] ++ (List.replicate (pl.length - 1) [V.int 0]).flatten)) ho4)
    dsimp only
    refine seq1 ⟨_, rfl, p.1, rfl, ⟨_, s8.seqT hpl⟩, ?_⟩
    refine for_walk (wk_tup (K := K) (xs := (toI lot).map V.int)) (fun j σ H' => ∃ (dp : Addr) (x7 x8 x9 : Option V) (r' : List Int), σ = [some (.ref dl), some (.ref oa), some (.ref pa), some (.ref na), some (.ref d), some (.ref p.1), some (.ref dp), x7, x8, x9] ∧ Same H5 H' ∧ H' dp = some (.lst (r'.map V.int)) ∧ r'.length = pl.length ∧ Bits (1 + 6 * j) r' ∧ ∀ k, k < pl.length → co r' k = lotW (co pl) (co no) ns (lot.take j) k)
      ⟨o4, _, _, _, 1 :: List.replicate (pl.length - 1) 0, rfl, s8, by rw [upd_same, rep_zero]; rfl, ?_, ?_, ?_⟩ (fun _ _ _ _ ⟨_, _, _, _, _, _, z, _⟩ => z.seqT hpl) (fun j x σ H6 H7 hj ⟨dp, x7, x8, x9, r', eσ, s9, e9, l9, b9, c9⟩ s10 it => ?_) fun σ H6 ⟨dp, x7, x8, x9, r', eσ, s9, e9, l9, b9, c9⟩ => ?_
    · rw [List.length_cons, List.length_replicate]; omega
    · intro k
      cases k with
      | zero => show 1 < 2; decide
      | succ k =>
        show (co (List.replicate (pl.length - 1) 0) k).natAbs < 2 ^ 1
        rw [co_rep]; decide
    · intro k _
      cases k with
      | zero => rfl
      | succ k => exact co_rep (pl.length - 1) k
    · subst eσ
      rw [lsz] at hj
      obtain ⟨u, eu⟩ : ∃ u, lot[j]? = some u := ⟨_, List.getElem?_eq_getElem hj⟩
      have exu : x = V.int (u : Int) := by
        have h1 : ((toI lot).map V.int)[j]? = some x := it
        rw [List.getElem?_map, List.getElem?_map, eu] at h1
        exact (Option.some.inj h1).symm
      subst exu
      have s07 := s05.trans (s9.trans s10)
      have go : ∀ (xa : Addr) (xl : List Int) (Q' : VK) (E' : XK), SqL K H7 xa (xl.map V.int) → xl.length = pl.length → Bits 1 xl → (∀ dn H' r2, Same H7 H' → H' dn = some (.lst (r2.map V.int)) → r2.length = pl.length → Bits (1 + 6 * (j + 1)) r2 → (∀ k, k < pl.length → co r2 k = conv (lotW (co pl) (co no) ns (lot.take j)) (co xl) k) → Q' (.ref dn) H') → spSeries K [.ref dp, .ref xa] H7 Q' E' := fun xa xl Q' E' hxa lxl bxl hq => by
        refine ⟨dp, xa, r', xl, rfl, SqL.of (s10 _ _ e9), hxa, by omega, by omega, b9.mono (by omega), fun H8 dn r2 s11 hdn e11 l11 c11 => hq dn H8 r2 s11 e11 (by omega) (fun k => ?_) fun k hk => ?_⟩
        · by_cases hk : k < r'.length
          · rw [c11 k hk]
            have h1 := conv_bits b9 bxl k
            have h2 : (k + 1) * 2 ^ (1 + 6 * j + 1) ≤ 20 * 2 ^ (1 + 6 * j + 1) := Nat.mul_le_mul_right _ (by omega)
            have h3 : 1 + 6 * (j + 1) = (1 + 6 * j + 1) + 5 := by omega
            rw [h3, Nat.pow_add]
            have h4 : 0 < 2 ^ (1 + 6 * j + 1) := Nat.pow_pos (by decide)
            omega
          · rw [co_out (by omega)]
            exact Nat.pow_pos (by decide)
        · rw [c11 k (by omega), conv_comm, conv_comm _ (co xl)]
          exact conv_upto _ fun i hi => c9 i (by omega)
      have ew : lotW (co pl) (co no) ns (lot.take (j + 1)) = conv (lotW (co pl) (co no) ns (lot.take j)) (if u ∈ ns then co no else co pl) := by
        unfold lotW
        rw [List.take_succ, eu, List.foldl_append]
        rfl
      refine asg1 ⟨_, rfl, test1 (op1 ⟨_, rfl, _, rfl, oa, natV ns, rfl, .inl (s07.seq ho), rfl, flat_nat ns, _, rfl, ?_⟩)⟩
      rw [inV_nat]
      by_cases hu : u ∈ ns
      · rw [if_pos hu] at ew
        refine iteT' (decide_eq_true hu) ⟨_, rfl, ?_⟩
        unfold tNil
        dsimp only [List.append_nil]
        exact go na no _ _ (s07.seq hn) (by omega) bn fun dn H8 r2 s11 e11 l11 b11 c11 => ⟨dn, _, _, _, r2, rfl, s9.trans (s10.trans s11), e11, l11, b11, fun k hk => by rw [ew]; exact c11 k hk⟩
      · rw [if_neg hu] at ew
        show (if decide (u ∈ ns) = true then _ else _)
        rw [if_neg (by simpa using hu)]
        refine ⟨_, rfl, ?_⟩
        unfold tNil
        dsimp only [List.append_nil]
        exact go pa pl _ _ (s07.seq hp) rfl bp fun dn H8 r2 s11 e11 l11 b11 c11 => ⟨dn, _, _, _, r2, rfl, s9.trans (s10.trans s11), e11, l11, b11, fun k hk => by rw [ew]; exact c11 k hk⟩
    · subst eσ
      rw [lsz, List.take_length] at c9
      have e4' := s9 _ _ (s5 _ _ e4)
      have s06 := s05.trans s9
      dsimp only
      refine asg1 ⟨_, rfl, _, rfl, d, dp, _, _, rfl, SqL.of e4', SqL.of e9, lc_walkV (wk_zip (K := K) (xs := r.map V.int) (ys := r'.map V.int) (by rw [List.length_map, List.length_map]; omega)) (fun k => .int (co r k + co r' k)) (by rw [List.length_map]; omega) ⟨SqL.of e4', SqL.of e9⟩
        (fun D k x H' C hk it s11 hD ac kC => ?_) fun D H' s11 hD e11 => ?_⟩
      · obtain ⟨t3, x1, y1, rfl, ht3, hx, hy⟩ := it
        obtain ⟨rfl, _, _⟩ := int_at hx
        obtain ⟨rfl, _, _⟩ := int_at hy
        exact ⟨t3, _, rfl, SqT.of ht3, rfl, _, _, rfl, _, _, rfl, rfl, rfl, _, rfl, _, rfl, _, _, rfl, rfl, kC _ (Same.refl _)⟩
      · refine ⟨D, _, _, _, _, _, (List.range pl.length).map (fun k => co r k + co r' k), rfl, s06.trans s11, s06.free hD, by rw [e11, List.length_map, l4, List.map_map]; rfl, by rw [List.length_map, List.length_range], fun k hk => ?_⟩
        rw [co_at (z := co r k + co r' k) (by rw [List.getElem?_map, List.getElem?_range hk]; rfl), c4 k hk, c9 k hk, List.take_succ, elot]
        rw [List.map_append, List.sum_append]
        show _ = _ + (_ + 0)
        rw [Int.add_zero]
  · subst eσ
    dsimp only
    rw [List.length_map, kl, List.take_length] at c4
    exact ret1 ⟨_, rfl, q _ d r s4 hd4 e4 l4 c4⟩
end
end Kz
end
section
set_option Elab.async false
set_option linter.all false
set_option maxRecDepth 100000
set_option maxHeartbeats 4000000
/-! the law's pairs -/
namespace Kz
open PySem PySem.Spec PyProof.Rows L2 KzM
def prsTo (n : Nat) : Nat → List (Nat × Nat)
  | 0 => []
  | a + 1 => prsTo n a ++ (List.range (n - (a + 1))).map fun i => (a, a + 1 + i)
abbrev prI (p : Nat × Nat) : List Int := [(p.1 : Int), (p.2 : Int)]
def spPairs (K : PySem.W.Frag) : Sp := fun vs H Q _ => ∃ n : Nat, vs = [.int (n : Nat)] ∧ n ≤ 5 ∧ ∀ H' d, Same H H' → H d = none → TupsAt K H' d ((prsTo n n).map prI) → Q (.ref d) H'
theorem prsTo_len (n : Nat) : ∀ a, (prsTo n a).length ≤ a * n
  | 0 => Nat.zero_le _
  | a + 1 => by
    show (prsTo n a ++ _).length ≤ _
    rw [List.length_append, List.length_map, List.length_range, Nat.succ_mul]
    have := prsTo_len n a
    omega
section
variable {P : Program} {w : World} {K : PySem.W.Frag} {mg : Str → Option Value} {base : Heap}
abbrev N_pairs : List Str := ["_law_letters", "_law_found", "_law_a", "_law_b"]
theorem sc_pairs : FnScope N_pairs ["_law_letters"] (defScope sl_pairs) := ⟨rfl, rfl, rfl, by decide +kernel, rfl, by decide +kernel, by decide +kernel⟩
theorem f_law_pairs (D : DefAt K mg "_law_pairs" sl_pairs) (T : Txt K mg) : FnS P w K mg base CX0 1 "_law_pairs" ["_law_letters"] (spPairs K) :=
  mkFn D sc_pairs (fun _ _ _ _ _ _ us hl => match us, hl with | [_], _ => rfl) (fun vs H Q E ⟨_, e, _⟩ => by rw [e]; rfl) fun cdv A outer s H vs Q E hr ⟨n, e, n5, q⟩ => by
  subst e
  have big : 20000 < sizeLine := by decide
  refine ⟨_, (pss_cons (ps_set (i := 1) sc_pairs.nd rfl (.inl rfl) (pe_lst pa_nil))
      (pss_cons (ps_for (passes_of rfl) rfl (pi_range1 rfl T.range_ (pa_cons (pv 0) pa_nil)) (pg_name (i := 2) sc_pairs.nd rfl (.inr rfl)) (pss_one (ps_set (i := 1) sc_pairs.nd rfl (.inl rfl) (pe_op op_cat (pv 1) (pe_lc (own := [("_law_b", 3)]) (g := (gName 3)) rfl sc_pairs.nd (pi_range2 rfl T.range_ (pa_cons (pe_op op_add (pv 2) pe_int) (pa_cons (pv 0) pa_nil))) (blkOk_by (N := N_pairs) (sc := defScope sl_pairs) (by decide +kernel)) (fun _ _ _ _ _ => (pg_name (i := 3) sc_pairs.nd rfl (.inl rfl))) (fun _ _ _ _ _ => pts_nil) (fun _ _ _ _ _ => (pe_tup (pa_cons (pv 2) (pa_cons (pv 3) pa_nil)))))))))
      (pss_one (ps_ret (pv 1))))), ?_⟩
  refine seq1 (asg1 ⟨Nat.zero_le _, fun d0 hd0 => ?_⟩)
  refine seq1 ⟨_, rfl, (n : Nat), rfl, by omega, by omega, ?_⟩
  refine for_walk (wk_range (n := n)) (fun i σ H' => ∃ (df : Addr) (x2 x3 : Option V) (ks : List (Addr × List Int)), σ = [some (.int (n : Nat)), some (.ref df), x2, x3] ∧ Same H H' ∧ H df = none ∧ H' df = some (.lst (ks.map fun p => V.ref p.1)) ∧ (∀ p ∈ ks, SqT K H' p.1 (p.2.map V.int)) ∧ ks.map (·.2) = (prsTo n i).map prI)
    ⟨d0, _, _, [], rfl, Same.new hd0, hd0, upd_same, fun _ h => (by cases h), rfl⟩ (fun _ _ _ _ _ => True.intro) (fun i x σ H3 H4 hi ⟨df, x2, x3, ks3, eσ, s3, hdf, e3, k3, m3⟩ s4 it => ?_) fun σ H3 ⟨df, x2, x3, ks3, eσ, s3, hdf, e3, k3, m3⟩ => ?_
  · subst eσ it
    have z0 : (0 : Int) + (i : Int) = (i : Int) := by omega
    rw [z0]
    have hi5 : i < 5 := by omega
    have lp := prsTo_len n i
    have lpi : i * n ≤ 5 * 5 := Nat.mul_le_mul (by omega) n5
    have l3 : ks3.length ≤ 25 := by
      have h1 := congrArg List.length m3
      rw [List.length_map, List.length_map] at h1
      omega
    refine asg1 (op1 ⟨_, rfl, ?_⟩)
    refine ⟨_, rfl, _, _, rfl, rfl, _, rfl, (i : Int) + 1, (n : Int), rfl, ⟨by omega, by omega, by omega, by omega⟩, ?_⟩
    rw [show ((n : Int) - ((i : Int) + 1)).toNat = n - (i + 1) by omega]
    refine lc_walk (wk_range (n := n - (i + 1))) (fun _ => true) (fun D j y H => ∃ t, y = V.ref t ∧ t ≠ D ∧ H t = some (.tup ((prI (i, i + 1 + j)).map V.int))) (fun D j y H1 H2 b ⟨t, e1, n, h⟩ => ⟨t, e1, n, b _ _ n h⟩) (by omega) True.intro (fun D j x H5 C N hj it5 s5 hD5 ac5 kC kN => ?_) (fun D H5 ys s5 hD5 e5 r5 => ?_)
    · subst it5
      rw [show ((i : Int) + 1 + (j : Int)) = ((i + 1 + j : Nat) : Int) by omega]
      obtain ⟨acc, hacc⟩ := ac5
      refine ⟨rfl, _, rfl, _, rfl, (by show 2 ≤ sizeLine; decide), fun t ht => kC _ _ rfl (Same.new ht) ⟨t, rfl, ne_of_none' hacc ht, upd_same⟩⟩
    · rw [List.filter_eq_self.mpr fun _ _ => rfl] at r5
      obtain ⟨ks5, ey, k5, m5⟩ := paired_ks (F := fun j => prI (i, i + 1 + j)) r5
      subst ey
      have l5 : ks5.length = n - (i + 1) := by
        have h1 := congrArg List.length m5
        rw [List.length_map, List.length_map, List.length_range] at h1
        exact h1
      have s35 := s3.trans (s4.trans s5)
      refine ⟨df, D, _, _, rfl, rfl, (s4.trans s5) _ _ e3, e5, by rw [List.length_map, List.length_map]; omega, fun p hp => ?_⟩
      refine ⟨p, _, _, ks3 ++ ks5, rfl, s35.trans (Same.new hp), s35.free hp, by rw [List.map_append]; exact upd_same, fun k hk => ?_, ?_⟩
      · rcases List.mem_append.mp hk with z | z
        · exact (Same.new hp).seqT ((s4.trans s5).seqT (k3 k z))
        · exact (Same.new hp).seqT (SqT.of (k5 k z))
      · rw [List.map_append, m3, m5]
        show _ = (prsTo n i ++ _).map prI
        rw [List.map_append, List.map_map]
        rfl
  · subst eσ
    dsimp only
    exact ret1 ⟨_, rfl, q _ df s3 hdf ⟨ks3, SqL.of e3, k3, m3⟩⟩
end
end Kz
end
section
set_option Elab.async false
set_option linter.all false
set_option maxRecDepth 100000
set_option maxHeartbeats 4000000
/-! the law's draws -/
namespace Kz
open PySem PySem.Spec PyProof.Rows L2 KzM
abbrev kLarge : Key := .inr "large"
abbrev kRest : Key := .inr "rest"
abbrev kCells : Key := .inr "cells"
abbrev kTurn : Key := .inr "turn"
abbrev drK (la ca : Addr) (r t : Int) : List (Key × V) := [(kLarge, .ref la), (kRest, .int r), (kCells, .ref ca), (kTurn, .int t)]
/-- the heap without the state of the draws -/
def Out (d la : Addr) (H : Hp) : Hp := fun b => if b = d ∨ b = la then none else H b
def Drw (H : Hp) (d la ca : Addr) : Prop := ∃ (r t : Int) (lg cs : List Int), H d = some (.dK (drK la ca r t)) ∧ H la = some (.lst (lg.map V.int)) ∧ H ca = some (.lst (cs.map V.int)) ∧ lg.length ≤ 64 ∧ cs.length ≤ 64 ∧ la ≠ ca
/-- drawn on, or things made new -/
def Drn (d la ca : Addr) (H H' : Hp) : Prop := Same (Out d la H) (Out d la H') ∧ Drw H' d la ca
section
variable {d la ca : Addr} {H H' H2 : Hp}
theorem out_of {b : Addr} {o : HO} (h : H b = some o) (n1 : b ≠ d) (n2 : b ≠ la) : Out d la H b = some o := by
  unfold Out
  rw [if_neg fun z => z.elim n1 n2]
  exact h
theorem out_in : Same (Out d la H) H := fun b o h => by
  unfold Out at h
  by_cases z : b = d ∨ b = la
  · rw [if_pos z] at h
    cases h
  · rw [if_neg z] at h
    exact h
theorem out_ne {b : Addr} {o : HO} (h : Out d la H b = some o) : b ≠ d ∧ b ≠ la := by
  unfold Out at h
  by_cases z : b = d ∨ b = la
  · rw [if_pos z] at h
    cases h
  · exact ⟨fun e => z (.inl e), fun e => z (.inr e)⟩
theorem Same.out (s : Same H H') : Same (Out d la H) (Out d la H') := fun b o h => by
  have n := out_ne h
  exact out_of (s _ _ (out_in _ _ h)) n.1 n.2
theorem out_upd_d {o : HO} : Out d la (upd H d o) = Out d la H := funext fun b => by
  unfold Out
  by_cases z : b = d ∨ b = la
  · rw [if_pos z, if_pos z]
  · rw [if_neg z, if_neg z, upd_ne fun e => z (.inl e)]
theorem out_upd_la {o : HO} : Out d la (upd H la o) = Out d la H := funext fun b => by
  unfold Out
  by_cases z : b = d ∨ b = la
  · rw [if_pos z, if_pos z]
  · rw [if_neg z, if_neg z, upd_ne fun e => z (.inr e)]
theorem Drw.mono (s : Same H H') (h : Drw H d la ca) : Drw H' d la ca := by
  obtain ⟨r, t, lg, cs, h1, h2, h3, h4⟩ := h
  exact ⟨r, t, lg, cs, s _ _ h1, s _ _ h2, s _ _ h3, h4⟩
theorem Drw.ne (h : Drw H d la ca) : d ≠ la ∧ d ≠ ca := by
  obtain ⟨r, t, lg, cs, h1, h2, h3, h4⟩ := h
  exact ⟨ne_of h1 h2 (by intro z; cases z), ne_of h1 h3 (by intro z; cases z)⟩
theorem Drn.refl (h : Drw H d la ca) : Drn d la ca H H := ⟨Same.refl _, h⟩
theorem Drn.of (h : Drw H d la ca) (s : Same H H') : Drn d la ca H H' := ⟨Same.out s, h.mono s⟩
theorem Drn.trans (a : Drn d la ca H H') (b : Drn d la ca H' H2) : Drn d la ca H H2 := ⟨a.1.trans b.1, b.2⟩
theorem Drn.same (a : Drn d la ca H H') (s : Same H' H2) : Drn d la ca H H2 := a.trans (.of a.2 s)
/-- what is new is none of the state -/
theorem Drw.new (h : Drw H d la ca) {b : Addr} (hb : H b = none) : b ≠ d ∧ b ≠ la ∧ b ≠ ca := by
  obtain ⟨r, t, lg, cs, h1, h2, h3, h4⟩ := h
  exact ⟨ne_of_none' h1 hb, ne_of_none' h2 hb, ne_of_none' h3 hb⟩
theorem Drn.keep (a : Drn d la ca H H') {b : Addr} {o : HO} (h : H b = some o) (n1 : b ≠ d) (n2 : b ≠ la) : H' b = some o := out_in _ _ (a.1 _ _ (out_of h n1 n2))
theorem Drw.turn {r t z : Int} (h1 : H d = some (.dK (drK la ca r t))) (h : Drw H d la ca) : Drn d la ca H (upd H d (.dK (drK la ca r z))) := by
  have n := h.ne
  obtain ⟨r0, t0, lg, cs, h0, h2, h3, h4⟩ := h
  refine ⟨by rw [out_upd_d]; exact Same.refl _, r, z, lg, cs, upd_same, ?_, ?_, h4⟩
  · rw [upd_ne n.1.symm]; exact h2
  · rw [upd_ne n.2.symm]; exact h3
theorem Drw.rest {r t z : Int} (h1 : H d = some (.dK (drK la ca r t))) (h : Drw H d la ca) : Drn d la ca H (upd H d (.dK (drK la ca z t))) := by
  have n := h.ne
  obtain ⟨r0, t0, lg, cs, h0, h2, h3, h4⟩ := h
  refine ⟨by rw [out_upd_d]; exact Same.refl _, z, t, lg, cs, upd_same, ?_, ?_, h4⟩
  · rw [upd_ne n.1.symm]; exact h2
  · rw [upd_ne n.2.symm]; exact h3
variable {r t : Int}
theorem get_large (h : H d = some (.dK (drK la ca r t))) : DGet H d (.str "large") (some (.ref la)) := DGet.k (k := kLarge) h
theorem get_rest (h : H d = some (.dK (drK la ca r t))) : DGet H d (.str "rest") (some (.int r)) := DGet.k (k := kRest) h
theorem get_cells (h : H d = some (.dK (drK la ca r t))) : DGet H d (.str "cells") (some (.ref ca)) := DGet.k (k := kCells) h
theorem get_turn (h : H d = some (.dK (drK la ca r t))) : DGet H d (.str "turn") (some (.int t)) := DGet.k (k := kTurn) h
theorem put_rest {z : Int} (h : H d = some (.dK (drK la ca r t))) : DPut H d (.str "rest") (.int z) (upd H d (.dK (drK la ca z t))) := DPut.k (k := kRest) h (show 4 < sizeLine by decide)
theorem put_turn {z : Int} (h : H d = some (.dK (drK la ca r t))) : DPut H d (.str "turn") (.int z) (upd H d (.dK (drK la ca r z))) := DPut.k (k := kTurn) h (show 4 < sizeLine by decide)
end
theorem seq_join {t u : TS} {D : Ends} {σ : L2.St} {H : Hp} (P : L2.St → Hp → Prop) (hu : ∀ σ' H', P σ' H' → u D σ' H') (ht : ∀ nx : L2.St → Hp → Prop, (∀ σ' H', P σ' H' → nx σ' H') → t { D with nx := nx } σ H) : tSeq t u D σ H := ht _ hu
def spBegun (K : PySem.W.Frag) : Sp := fun vs H Q _ => ∃ (a : Addr) (ns : List Int), vs = [.ref a] ∧ SqL K H a (ns.map V.int) ∧ ns.length ≤ 63 ∧ ∀ H' d la ca, Same H H' → H d = none → H la = none → Drw H' d la ca → Q (.ref d) H'
def spMixed : Sp := fun vs H Q _ => ∃ d la ca, vs = [.ref d] ∧ Drw H d la ca ∧ ∀ H' i, Drn d la ca H H' → Q (.int i) H'
def spTake : Sp := fun vs H Q _ => ∃ (d la ca : Addr) (n : Nat), vs = [.ref d, .int (n : Nat)] ∧ Drw H d la ca ∧ 1 ≤ n ∧ n ≤ 1000 ∧ ∀ H' (i : Nat), Drn d la ca H H' → i < n → Q (.int (i : Nat)) H'
section
variable {P : Program} {w : World} {K : PySem.W.Frag} {mg : Str → Option Value} {base : Heap}
abbrev N_begun : List Str := ["_law_script", "_law_large", "_law_grain"]
theorem sc_begun : FnScope N_begun ["_law_script"] (defScope sl_begun) := ⟨rfl, rfl, rfl, by decide +kernel, rfl, by decide +kernel, by decide +kernel⟩
theorem f_law_begun (D : DefAt K mg "_law_begun" sl_begun) (T : Txt K mg) : FnS P w K mg base CX0 1 "_law_begun" ["_law_script"] (spBegun K) :=
  mkFn D sc_begun (fun _ _ _ _ _ _ us hl => match us, hl with | [_], _ => rfl) (fun vs H Q E ⟨_, _, e, _⟩ => by rw [e]; rfl) fun cdv A outer s H vs Q E hr ⟨a, ns, e, ha, hn, q⟩ => by
  subst e
  have big : 10000 < sizeLine := by decide
  refine ⟨_, (pss_cons (ps_setLc (i := 1) (own := [("_law_grain", 2)]) (g := (gName 2)) rfl sc_begun.nd rfl rfl (sw_true rfl rfl rfl (by decide +kernel)) (pi_list (pv 0)) (blkOk_by (N := N_begun) (sc := defScope sl_begun) (by decide +kernel)) (fun _ _ _ _ _ => (pg_name (i := 2) sc_begun.nd rfl (.inl rfl))) (fun _ _ _ _ _ => (pts_one (pt_cmpR op_ge (pe_callB call_abs (by rfl) T.abs_ bo_abs (pa_cons (pv 2) pa_nil)) (pe_op op_pow pe_int pe_int) (nomark _)))) (fun _ _ _ _ _ => (pe_op op_sub (pe_callB call_abs (by rfl) T.abs_ bo_abs (pa_cons (pv 2) pa_nil)) (pe_op op_pow pe_int pe_int))))
      (pss_one (ps_ret (pe_disp (pps_cons pe_str (pv 1) (pps_cons pe_str pe_int (pps_cons pe_str (pe_lc (own := [("_law_grain", 2)]) (g := (gName 2)) rfl sc_begun.nd (pi_list (pv 0)) (blkOk_by (N := N_begun) (sc := defScope sl_begun) (by decide +kernel)) (fun _ _ _ _ _ => (pg_name (i := 2) sc_begun.nd rfl (.inl rfl))) (fun _ _ _ _ _ => pts_nil) (fun _ _ _ _ _ => (pe_callB call_abs (by rfl) T.abs_ bo_abs (pa_cons (pv 2) pa_nil)))) (pps_cons pe_str pe_int pps_nil)))) (by rfl) (by rfl) (fun z => by cases z) (by decide))))), ?_⟩
  let ab : Nat → Int := fun i => if ns.getD i 0 < 0 then - ns.getD i 0 else ns.getD i 0
  have at_ : ∀ {i : Nat} {x : V}, (ns.map V.int)[i]? = some x → x = .int (ns.getD i 0) := fun h => (int_at h).1
  refine ⟨_, rfl, a, rfl, ⟨_, ha⟩, lc_walkF (wk_list (K := K) (xs := ns.map V.int)) (fun i => decide (10 ^ 18 ≤ ab i)) (fun i => .int (ab i - 10 ^ 18)) (by rw [List.length_map]; omega) ha (fun DD i x H1 C N hi it s1 hDD ac kC kN => ?_) fun DD H1 s1 hDD e1 => ?_⟩
  · obtain rfl := at_ it
    refine ⟨rfl, _, rfl, _, rfl, _, _, rfl, rfl, ⟨by decide, by decide, by decide⟩, _, _, rfl, rfl, _, rfl, ?_⟩
    by_cases h : (10 : Int) ^ 18 ≤ ab i
    · refine iteT' (decide_eq_true h) ⟨_, rfl, _, rfl, _, _, rfl, rfl, ⟨by decide, by decide, by decide⟩, _, _, rfl, rfl, kC _ (decide_eq_true h) (Same.refl _)⟩
    · show (if decide ((10 : Int) ^ 18 ≤ ab i) = true then _ else _)
      rw [if_neg (by simpa using h)]
      exact kN _ (decide_eq_false h) (Same.refl _)
  · have hl : H1 DD = some (.lst ((((List.range ns.length).filter fun i => decide (10 ^ 18 ≤ ab i)).map fun i => ab i - 10 ^ 18).map V.int)) := by
      rw [e1, List.length_map, List.map_map]
      rfl
    intro p hp
    have s2 : Same H1 (upd H1 p (.dK [])) := Same.new hp
    refine ⟨_, rfl, _, rfl, a, rfl, ⟨_, (s1.trans s2).seq ha⟩, lc_walkV (wk_list (K := K) (xs := ns.map V.int)) (fun i => .int (ab i)) (by rw [List.length_map]; omega) ((s1.trans s2).seq ha) (fun D2 i x H3 C hi it s3 hD2 ac kC => ?_) fun D2 H3 s3 hD2 e3 => ?_⟩
    · obtain rfl := at_ it
      exact ⟨rfl, _, rfl, _, rfl, kC _ (Same.refl _)⟩
    · have hp3 := s3 _ _ (upd_same (H := H1) (a := p) (o := HO.dK []))
      have l3 := s3 _ _ (s2 _ _ hl)
      have n1 : p ≠ DD := ne_of_none' hl hp
      have n2 : D2 ≠ p := ne_of_none' (upd_same (H := H1) (a := p) (o := HO.dK [])) hD2
      have n3 : D2 ≠ DD := ne_of_none' (s2 _ _ hl) hD2
      have fl : ((List.range ns.length).filter fun i => decide (10 ^ 18 ≤ ab i)).length ≤ 63 := Nat.le_trans (List.length_filter_le _ _) (by rw [List.length_range]; exact hn)
      refine ⟨hp3, drK DD D2 0 0, rfl, by show 4 ≤ 15; decide, q _ p DD D2 ?_ (s1.free hp) hDD ?_⟩
      · intro b o hb
        have e : upd H1 p (HO.dK []) b = some o := s2 _ _ (s1 _ _ hb)
        rw [upd_ne (ne_of_none' (s1 _ _ hb) hp).symm]
        exact s3 _ _ e
      · refine ⟨0, 0, _, (List.range ns.length).map ab, upd_same, by rw [upd_ne n1.symm]; exact l3, by rw [upd_ne n2, e3, List.length_map, List.map_map]; rfl, ?_, ?_, fun e => n3 e.symm⟩
        · rw [List.length_map]; omega
        · rw [List.length_map, List.length_range]; omega
abbrev N_mixed : List Str := ["_law_draw", "_law_turn", "_law_found", "_law_great", "_law_blend", "_law_grain"]
theorem sc_mixed : FnScope N_mixed ["_law_draw"] (defScope sl_mixed) := ⟨rfl, rfl, rfl, by decide +kernel, rfl, by decide +kernel, by decide +kernel⟩
theorem f_law_mixed (D : DefAt K mg "_law_mixed" sl_mixed) (T : Txt K mg) : FnS P w K mg base CX0 1 "_law_mixed" ["_law_draw"] spMixed :=
  mkFn D sc_mixed (fun _ _ _ _ _ _ us hl => match us, hl with | [_], _ => rfl) (fun vs H Q E ⟨_, _, _, e, _⟩ => by rw [e]; rfl) fun cdv A outer s H vs Q E hr ⟨d, la, ca, e, hd, q⟩ => by
  subst e
  have big : 10000 < sizeLine := by decide
  refine ⟨_, (pss_cons (ps_dput (hu_of hr) (pv 0) pe_str (pe_op op_add (pe_dget (hu_of hr) (pv 0) pe_str (fun _ _ => rfl)) pe_int) rfl)
      (pss_cons (ps_par (i := 1) (j := 2) rfl sc_mixed.nd rfl rfl (by decide) rfl rfl (pa_cons (pe_callTy call_int1 (by rfl) T.int_ bo_int (pa_cons (pe_dget (hu_of hr) (pv 0) pe_str (fun _ _ => rfl)) pa_nil)) (pa_cons pe_int pa_nil)) (by rfl))
      (pss_cons (ps_for (passes_of rfl) rfl (pi_list (pe_lst (pa_cons pe_int (pa_cons pe_int (pa_cons pe_int pa_nil))))) (pg_name (i := 3) sc_mixed.nd rfl (.inl rfl)) (pss_cons (ps_set (i := 4) sc_mixed.nd rfl (.inl rfl) (pe_op op_mod (pe_op op_add (pe_op op_mul (pv 1) pe_int) (pe_op op_fdiv (pv 3) pe_int)) (pv 3)))
      (pss_cons (ps_for (passes_of rfl) rfl (pi_list (pe_dget (hu_of hr) (pv 0) pe_str (fun _ _ => rfl))) (pg_name (i := 5) sc_mixed.nd rfl (.inl rfl)) (pss_one (ps_set (i := 4) sc_mixed.nd rfl (.inl rfl) (pe_op op_mod (pe_op op_add (pe_op op_mul (pv 4) pe_int) (pe_callTy call_int1 (by rfl) T.int_ bo_int (pa_cons (pv 5) pa_nil))) (pv 3)))))
      (pss_one (ps_set (i := 2) sc_mixed.nd rfl (.inl rfl) (pe_op op_add (pe_op op_mul (pv 2) pe_int) (pe_op op_mod (pe_op op_pow (pv 4) pe_int) (pv 3))))))))
      (pss_one (ps_ret (pv 2)))))), ?_⟩
  obtain ⟨r, t, lg, cs, h1, h2, h3, l1, l2, n1⟩ := id hd
  have dt := Drw.turn (z := t + 1) h1 hd
  refine seq1 ⟨_, rfl, d, _, rfl, get_turn h1, _, _, rfl, rfl, _, rfl, d, _, rfl, put_turn h1, ?_⟩
  obtain ⟨_, _, lg', cs', _, _, h3', _, l2', _⟩ := id dt.2
  refine seq1 ⟨_, rfl, d, _, rfl, get_turn upd_same, .inl ⟨_, rfl, _, _, rfl, ?_⟩⟩
  refine seq1 ⟨by show 3 ≤ sizeLine; decide, fun l hl => ⟨l, rfl, ⟨_, SqL.of upd_same⟩, ?_⟩⟩
  have s2 : Same (upd H d (.dK (drK la ca r (t + 1)))) (upd (upd H d (.dK (drK la ca r (t + 1)))) l (.lst [.int 2147483629, .int 2147483587, .int 2147483579])) := Same.new hl
  refine for_walk (wk_list (K := K) (xs := [V.int 2147483629, V.int 2147483587, V.int 2147483579])) (fun i σ H' => ∃ (f : Int) (x3 x4 x5 : Option V), σ = [some (.ref d), some (.int (t + 1)), some (.int f), x3, x4, x5] ∧ Same (upd (upd H d (.dK (drK la ca r (t + 1)))) l (.lst [.int 2147483629, .int 2147483587, .int 2147483579])) H')
    ⟨0, _, _, _, rfl, Same.refl _⟩ (fun _ _ _ _ ⟨_, _, _, _, _, z⟩ => z.seq (SqL.of upd_same)) (fun i x σ H3 H4 hi ⟨f, x3, x4, x5, eσ, s3⟩ s4 it => ?_) fun σ H3 ⟨f, x3, x4, x5, eσ, s3⟩ => ?_
  · subst eσ
    have gr : ∃ g : Int, x = .int g ∧ 0 < g ∧ g < 2147483648 := by
      have it : ([V.int 2147483629, V.int 2147483587, V.int 2147483579])[i]? = some x := it
      match i, it with
      | 0, it => exact ⟨_, (Option.some.inj it).symm, by decide, by decide⟩
      | 1, it => exact ⟨_, (Option.some.inj it).symm, by decide, by decide⟩
      | 2, it => exact ⟨_, (Option.some.inj it).symm, by decide, by decide⟩
    obtain ⟨g, rfl, g0, g1⟩ := gr
    have s24 := s2.trans (s3.trans s4)
    have hd4 : H4 d = some (.dK (drK la ca r (t + 1))) := s24 _ _ upd_same
    have hc4 : H4 ca = some (.lst (cs'.map V.int)) := s24 _ _ h3'
    dsimp only
    refine seq1 (asg1 ⟨_, rfl, _, _, rfl, rfl, .inr ⟨by decide, by decide⟩, _, rfl, _, _, rfl, rfl, ⟨by decide, by decide⟩, _, _, rfl, rfl, _, rfl, _, _, rfl, rfl, g0, ?_⟩)
    dsimp only
    refine seq1 ⟨_, rfl, d, _, rfl, get_cells hd4, ca, rfl, ⟨_, SqL.of hc4⟩, ?_⟩
    refine for_walk (wk_list (K := K) (xs := cs'.map V.int)) (fun j σ H' => ∃ (b : Int) (x5 : Option V), σ = [some (.ref d), some (.int (t + 1)), some (.int f), some (.int g), some (.int b), x5] ∧ Same H4 H' ∧ 0 ≤ b ∧ b < g)
      ⟨_, _, rfl, Same.refl _, Int.emod_nonneg _ (by omega), Int.emod_lt_of_pos _ g0⟩ (fun _ _ _ _ ⟨_, _, _, z, _⟩ => z.seq (SqL.of hc4)) (fun j x σ H5 H6 hj ⟨b, x5, eσ, s5, b0, b1⟩ s6 it => ?_) fun σ H5 ⟨b, x5, eσ, s5, b0, b1⟩ => ?_
    · subst eσ
      obtain ⟨rfl, _, _⟩ := int_at it
      exact ⟨_, rfl, _, _, rfl, rfl, .inr ⟨by decide, by decide⟩, _, rfl, .inl ⟨_, rfl, _, _, rfl, rfl, _, rfl, _, _, rfl, rfl, g0, _, _, rfl, s5.trans s6, Int.emod_nonneg _ (by omega), Int.emod_lt_of_pos _ g0⟩⟩
    · subst eσ
      dsimp only
      exact ⟨_, rfl, _, _, rfl, rfl, .inr ⟨by decide, by decide⟩, _, rfl, _, _, rfl, rfl, ⟨by decide, by decide, by omega⟩, _, rfl, _, _, rfl, rfl, g0, _, _, rfl, rfl, _, _, _, _, rfl, s3.trans (s4.trans s5)⟩
  · subst eσ
    dsimp only
    exact ret1 ⟨_, rfl, q _ f (dt.same (s2.trans s3))⟩
abbrev N_take : List Str := ["_law_draw", "_law_amount", "_law_found"]
theorem sc_take : FnScope N_take ["_law_draw", "_law_amount"] (defScope sl_take) := ⟨rfl, rfl, rfl, by decide +kernel, rfl, by decide +kernel, by decide +kernel⟩
theorem f_law_take (D : DefAt K mg "_law_take" sl_take) (T : Txt K mg) (f_mixed : FnS P w K mg base CX0 1 "_law_mixed" ["_law_draw"] spMixed) : FnS P w K mg base CX0 2 "_law_take" ["_law_draw", "_law_amount"] spTake :=
  mkFn D sc_take (fun _ _ _ _ _ _ us hl => match us, hl with | [_, _], _ => rfl) (fun vs H Q E ⟨_, _, _, _, e, _⟩ => by rw [e]; rfl) fun cdv A outer s H vs Q E hr ⟨d, la, ca, n, e, hd, n1, n2, q⟩ => by
  subst e
  have big : 10000 < sizeLine := by decide
  refine ⟨_, (pss_cons (ps_if (pt_cmpR op_eq (pe_dget (hu_of hr) (pv 0) pe_str (fun _ _ => rfl)) pe_int (nomark _)) (pss_one (ps_dput (hu_of hr) (pv 0) pe_str (pe_ifExp (pt_cmpR (op_neD hr.units) (pe_dget (hu_of hr) (pv 0) pe_str (fun _ _ => rfl)) (pe_lst pa_nil) (nomark _)) (pe_bm PySem.F.plainAttrs_list PySem.F.slot_list_pop PySem.F.type_list_pop mt_popAt (pe_dget (hu_of hr) (pv 0) pe_str (fun _ _ => rfl)) (pa_cons pe_int pa_nil)) (pe_call f_mixed.ok (hr.mono (by decide)) rfl f_mixed.g f_mixed.kp f_mixed.b .nil pass0 (pa_cons (pv 0) pa_nil))) rfl)) pss_nil)
      (pss_cons (ps_set (i := 2) sc_take.nd rfl (.inl rfl) (pe_op op_mod (pe_callTy call_int1 (by rfl) T.int_ bo_int (pa_cons (pe_dget (hu_of hr) (pv 0) pe_str (fun _ _ => rfl)) pa_nil)) (pv 1)))
      (pss_cons (ps_dput (hu_of hr) (pv 0) pe_str (pe_op op_fdiv (pe_callTy call_int1 (by rfl) T.int_ bo_int (pa_cons (pe_dget (hu_of hr) (pv 0) pe_str (fun _ _ => rfl)) pa_nil)) (pv 1)) rfl)
      (pss_one (ps_ret (pv 2)))))), ?_⟩
  refine seq_join (fun σ H' => σ = [some (.ref d), some (.int (n : Nat)), none] ∧ Drn d la ca H H') (fun σ H1 ⟨eσ, dr⟩ => ?_) fun nx hnx => ?_
  · subst eσ
    obtain ⟨r, t, lg, cs, h1, h2, h3, l1, l2, nn⟩ := id dr.2
    refine seq1 (asg1 ⟨_, rfl, d, _, rfl, get_rest h1, .inl ⟨_, rfl, _, rfl, _, _, rfl, rfl, by omega, ?_⟩⟩)
    refine seq1 ⟨_, rfl, d, _, rfl, get_rest h1, .inl ⟨_, rfl, _, rfl, _, _, rfl, rfl, ⟨by omega, by omega⟩, _, rfl, d, _, rfl, put_rest h1, ?_⟩⟩
    have e : r % (n : Int) = ((r % (n : Int)).toNat : Int) := (Int.toNat_of_nonneg (Int.emod_nonneg _ (by omega))).symm
    have lt := Int.emod_lt_of_pos r (show (0 : Int) < n by omega)
    dsimp only
    refine ret1 ⟨_, rfl, ?_⟩
    show Q (.int (r % (n : Int))) _
    rw [e]
    exact q _ _ (dr.trans (Drw.rest h1 dr.2)) (by omega)
  · obtain ⟨r, t, lg, cs, h1, h2, h3, l1, l2, nn⟩ := id hd
    refine if1 (test1 (op1 ⟨_, rfl, d, _, rfl, get_rest h1, rfl, _, rfl, ?_⟩))
    by_cases z : r = 0
    · subst z
      refine iteT' rfl ?_
      have put : ∀ (H' : Hp) (i : Int), Drn d la ca H H' → ∃ x, ([some (V.ref d), some (.int (n : Nat)), none] : L2.St)[0]? = some (some x) ∧ True := fun _ _ _ => ⟨_, rfl, trivial⟩
      refine ⟨_, rfl, d, _, rfl, get_large h1, Nat.zero_le _, fun o ho => ne_nilI (ns := lg) (SqL.of (Same.new ho _ _ h2)) (SqL.of upd_same) ⟨_, rfl, ?_⟩⟩
      have s2 : Same H (upd H o (.lst [])) := Same.new ho
      have d2 : Drn d la ca H (upd H o (.lst [])) := .of hd s2
      by_cases e : lg = []
      · rw [decide_eq_true e]
        refine ⟨_, rfl, d, la, ca, rfl, d2.2, fun H3 i d3 => ?_⟩
        obtain ⟨r3, t3, lg3, cs3, h31, h3r⟩ := id d3.2
        exact ⟨_, rfl, d, _, rfl, put_rest h31, hnx _ _ ⟨rfl, (d2.trans d3).trans (Drw.rest h31 d3.2)⟩⟩
      · rw [decide_eq_false e]
        have lp : 0 < lg.length := List.length_pos_iff.mpr e
        have sla : H la = some (.lst (lg.map V.int)) := h2
        refine ⟨_, rfl, d, _, rfl, get_large (s2 _ _ h1), .inl ⟨rfl, _, SqL.of (s2 _ _ h2)⟩, la, _, 0, 0, .int (co lg 0), rfl, rfl, s2 _ _ h2, by decide, by decide, ?_, ?_, ?_⟩
        · rw [List.length_map]
          exact seqIndex_of (by decide) (by omega)
        · rw [List.getElem?_map]
          cases lg with
          | nil => exact absurd rfl e
          | cons a l => rfl
        · have nn2 := d2.2.ne
          have e3 : (lg.map V.int).eraseIdx 0 = (lg.eraseIdx 0).map V.int := by
            cases lg with
            | nil => rfl
            | cons a l => rfl
          rw [e3]
          have d3 : Drn d la ca (upd H o (.lst [])) (upd (upd H o (.lst [])) la (.lst ((lg.eraseIdx 0).map V.int))) := by
            refine ⟨by rw [out_upd_la]; exact Same.refl _, 0, t, lg.eraseIdx 0, cs, ?_, upd_same, ?_, ?_, l2, nn⟩
            · rw [upd_ne nn2.1]; exact s2 _ _ h1
            · rw [upd_ne (Ne.symm nn)]; exact s2 _ _ h3
            · rw [List.length_eraseIdx]
              split <;> omega
          have h31 : (upd (upd H o (.lst [])) la (.lst ((lg.eraseIdx 0).map V.int))) d = some (.dK (drK la ca 0 t)) := by
            rw [upd_ne nn2.1]; exact s2 _ _ h1
          exact ⟨_, rfl, d, _, rfl, put_rest h31, hnx _ _ ⟨rfl, (d2.trans d3).trans (Drw.rest h31 d3.2)⟩⟩
    · have : decide (V.int r = V.int 0) = false := decide_eq_false fun q => z (V.int.inj q)
      rw [this]
      exact hnx _ _ ⟨rfl, .refl hd⟩
end
end Kz
end
section
set_option Elab.async false
set_option linter.all false
set_option maxRecDepth 100000
set_option maxHeartbeats 4000000
/-! the law's draws, 2 -/
namespace Kz
open PySem PySem.Spec PyProof.Rows L2 KzM
/-- a number, or a row of numbers -/
def Dv (K : PySem.W.Frag) (H : Hp) (v : V) : Prop := (∃ i, v = .int i) ∨ ∃ (a : Addr) (ns : List Int), v = .ref a ∧ SqX K H a (ns.map V.int)
theorem Dv.mono {K : PySem.W.Frag} {H H' : Hp} {v : V} (s : Same H H') (h : Dv K H v) : Dv K H' v := by
  rcases h with h | ⟨a, ns, e, h⟩
  · exact .inl h
  · exact .inr ⟨a, ns, e, s.seqX h⟩
theorem dv_data {K : PySem.W.Frag} {H : Hp} {v : V} (h : Dv K H v) : ∃ dd, Dp K H v dd ∧ PyData.canLay0 dd = true ∧ PyData.depth dd ≤ 1 := by
  rcases h with ⟨i, rfl⟩ | ⟨a, ns, rfl, h⟩
  · exact ⟨.int i, .int i, rfl, Nat.zero_le _⟩
  · rcases h with h | h
    · refine ⟨.list (dInts ns), dp_ints h, lay_ints ns, ?_⟩
      show PyData.depthAll (dInts ns) + 1 ≤ 1
      rw [depth_ints]
      exact Nat.le_refl _
    · refine ⟨.tuple (dInts ns), dp_tupI h, lay_ints ns, ?_⟩
      show PyData.depthAll (dInts ns) + 1 ≤ 1
      rw [depth_ints]
      exact Nat.le_refl _
theorem dvs_data {K : PySem.W.Frag} {H : Hp} : ∀ {xs : List V}, (∀ x ∈ xs, Dv K H x) → ∃ ds, DpAll K H xs ds ∧ PyData.canLayAll0 ds = true ∧ PyData.depthAll ds ≤ 1 ∧ ds.length = xs.length
  | [], _ => ⟨[], .nil, rfl, Nat.zero_le _, rfl⟩
  | x :: xs, h => by
    obtain ⟨ds, h1, h2, h3, h4⟩ := dvs_data fun y hy => h y (List.mem_cons_of_mem _ hy)
    obtain ⟨dd, g1, g2, g3⟩ := dv_data (h x List.mem_cons_self)
    refine ⟨dd :: ds, .cons g1 h1, ?_, ?_, by rw [List.length_cons, h4, List.length_cons]⟩
    · show (PyData.canLay0 dd && PyData.canLayAll0 ds) = true
      rw [g2, h2]
      rfl
    · show max (PyData.depth dd) (PyData.depthAll ds) ≤ 1
      omega
theorem ne_nilV {K : PySem.W.Frag} {H : Hp} {a b : Addr} {xs : List V} {Q : VK} (h : SqL K H a xs) (hv : ∀ x ∈ xs, Dv K H x) (h0 : SqL K H b []) (q : Q (.bl (!decide (xs.length = 0))) H) : rNeD K (.ref a) (.ref b) H Q := by
  obtain ⟨ds, h1, h2, h3, h4⟩ := dvs_data hv
  refine ⟨.list ds, .list [], .lst h h1, .lst h0 .nil, ?_, rfl, ?_⟩
  · show (PyData.canLayAll0 ds && decide (PyData.depthAll ds + 1 ≤ 64)) = true
    rw [h2, decide_eq_true (by omega)]
    rfl
  · have e : PyData.eqv (.list ds) (.list []) = decide (xs.length = 0) := by
      rw [← h4]
      cases ds with
      | nil => rfl
      | cons d ds => rfl
    rw [e]
    exact q
def spPick (K : PySem.W.Frag) : Sp := fun vs H Q _ => ∃ (d la ca a : Addr) (xs : List V), vs = [.ref d, .ref a] ∧ Drw H d la ca ∧ SqL K (Out d la H) a xs ∧ 1 ≤ xs.length ∧ xs.length ≤ 1000 ∧ ∀ H' v, Drn d la ca H H' → v ∈ xs → Q v H'
def spField : Sp := fun vs H Q _ => ∃ d la ca, vs = [.ref d] ∧ Drw H d la ca ∧ ∀ H' p, Drn d la ca H H' → p ∈ fieldsL → Q (.int p) H'
def spGiven (K : PySem.W.Frag) : Sp := fun vs H Q _ => ∃ (d la ca a : Addr) (xs : List V), vs = [.ref d, .ref a] ∧ Drw H d la ca ∧ SqL K (Out d la H) a xs ∧ ∀ H' g, Drn d la ca H H' → SqX K (Out d la H') g xs → Q (.ref g) H'
def spShuffled (K : PySem.W.Frag) : Sp := fun vs H Q _ => ∃ (d la ca a : Addr) (xs : List V), vs = [.ref d, .ref a] ∧ Drw H d la ca ∧ SqL K (Out d la H) a xs ∧ xs.length ≤ 64 ∧ (∀ x ∈ xs, Dv K (Out d la H) x) ∧ ∀ H' g ys, Drn d la ca H H' → H g = none → H' g = some (.lst ys) → g ≠ d → g ≠ la → ys.Perm xs → Q (.ref g) H'
theorem erase_perm {α : Type} : ∀ {l : List α} {i : Nat} {a : α}, l[i]? = some a → (a :: l.eraseIdx i).Perm l
  | [], _, _, h => by simp at h
  | x :: l, 0, a, h => by
    simp at h
    subst h
    exact List.Perm.refl _
  | x :: l, i + 1, a, h => by
    have := erase_perm (l := l) (i := i) (a := a) (by simpa using h)
    exact (List.Perm.swap x a _).trans (this.cons x)
section
variable {P : Program} {w : World} {K : PySem.W.Frag} {mg : Str → Option Value} {base : Heap}
abbrev N_pick : List Str := ["_law_draw", "_law_some"]
theorem sc_pick : FnScope N_pick ["_law_draw", "_law_some"] (defScope sl_pick) := ⟨rfl, rfl, rfl, by decide +kernel, rfl, by decide +kernel, by decide +kernel⟩
theorem f_law_pick (D : DefAt K mg "_law_pick" sl_pick) (T : Txt K mg) (f_take : FnS P w K mg base CX0 2 "_law_take" ["_law_draw", "_law_amount"] spTake) : FnS P w K mg base CX0 3 "_law_pick" ["_law_draw", "_law_some"] (spPick K) :=
  mkFn D sc_pick (fun _ _ _ _ _ _ us hl => match us, hl with | [_, _], _ => rfl) (fun vs H Q E ⟨_, _, _, _, _, e, _⟩ => by rw [e]; rfl) fun cdv A outer s H vs Q E hr ⟨d, la, ca, a, xs, e, hd, ha, n1, n2, q⟩ => by
  subst e
  refine ⟨_, (pss_one (ps_ret (pe_ix ix_list (pv 1) (pe_call f_take.ok (hr.mono (by decide)) rfl f_take.g f_take.kp f_take.b .nil pass0 (pa_cons (pv 0) (pa_cons (pe_callB call_len_seq (by rfl) T.len_ bo_len (pa_cons (pv 1) pa_nil)) pa_nil))) (fun _ _ => rfl)))), ?_⟩
  refine ret1 ⟨_, rfl, _, rfl, _, rfl, a, _, rfl, .inl (out_in.seq ha), d, la, ca, xs.length, rfl, hd, n1, n2, fun H' i dr hi => ?_⟩
  exact ⟨a, xs, i, xs[i], rfl, rfl, out_in.seq (dr.1.seq ha), atI_nat (List.getElem?_eq_getElem hi), q _ _ dr (List.getElem_mem hi)⟩
abbrev N_field : List Str := ["_law_draw"]
theorem sc_field : FnScope N_field ["_law_draw"] (defScope sl_field) := ⟨rfl, rfl, rfl, by decide +kernel, rfl, by decide +kernel, by decide +kernel⟩
theorem f_law_field (D : DefAt K mg "_law_field" sl_field) (T : Txt K mg) (f_pick : FnS P w K mg base CX0 3 "_law_pick" ["_law_draw", "_law_some"] (spPick K)) : FnS P w K mg base CX0 4 "_law_field" ["_law_draw"] spField :=
  mkFn D sc_field (fun _ _ _ _ _ _ us hl => match us, hl with | [_], _ => rfl) (fun vs H Q E ⟨_, _, _, e, _⟩ => by rw [e]; rfl) fun cdv A outer s H vs Q E hr ⟨d, la, ca, e, hd, q⟩ => by
  subst e
  refine ⟨_, (pss_one (ps_ret (pe_call f_pick.ok (hr.mono (by decide)) rfl f_pick.g f_pick.kp f_pick.b .nil pass0 (pa_cons (pv 0) (pa_cons (pe_lst (pa_cons pe_int (pa_cons pe_int (pa_cons pe_int (pa_cons pe_int (pa_cons pe_int (pa_cons pe_int (pa_cons pe_int (pa_cons pe_int (pa_cons pe_int (pa_cons pe_int pa_nil))))))))))) pa_nil))))), ?_⟩
  refine ret1 ⟨_, rfl, (by show 10 ≤ sizeLine; decide), fun l hl => ?_⟩
  have n := hd.new hl
  refine ⟨d, la, ca, l, [2, 3, 3, 5, 5, 7, 7, 11, 13, 97].map V.int, rfl, hd.mono (Same.new hl), SqL.of (out_of upd_same n.1 n.2.1), by decide, by decide, fun H' v dr hv => ?_⟩
  obtain ⟨p, hp, rfl⟩ := List.mem_map.mp hv
  have : ∀ p ∈ [2, 3, 3, 5, 5, 7, 7, 11, 13, 97], p ∈ fieldsL := by decide
  exact q _ p ((Drn.of hd (Same.new hl)).trans dr) (this p hp)
abbrev N_given : List Str := ["_law_draw", "_law_some"]
theorem sc_given : FnScope N_given ["_law_draw", "_law_some"] (defScope sl_given) := ⟨rfl, rfl, rfl, by decide +kernel, rfl, by decide +kernel, by decide +kernel⟩
theorem f_law_given (D : DefAt K mg "_law_given" sl_given) (T : Txt K mg) (f_take : FnS P w K mg base CX0 2 "_law_take" ["_law_draw", "_law_amount"] spTake) : FnS P w K mg base CX0 3 "_law_given" ["_law_draw", "_law_some"] (spGiven K) :=
  mkFn D sc_given (fun _ _ _ _ _ _ us hl => match us, hl with | [_, _], _ => rfl) (fun vs H Q E ⟨_, _, _, _, _, e, _⟩ => by rw [e]; rfl) fun cdv A outer s H vs Q E hr ⟨d, la, ca, a, xs, e, hd, ha, q⟩ => by
  subst e
  refine ⟨_, (pss_one (ps_ret (pe_ifExp (pt_cmpR op_eq (pe_call f_take.ok (hr.mono (by decide)) rfl f_take.g f_take.kp f_take.b .nil pass0 (pa_cons (pv 0) (pa_cons pe_int pa_nil))) pe_int (nomark _)) (pe_callTy call_tuple_of (by rfl) T.tuple_ bo_tuple (pa_cons (pv 1) pa_nil)) (pe_callTy call_list_of (by rfl) T.list_ bo_list (pa_cons (pv 1) pa_nil))))), ?_⟩
  refine ret1 (test1 (op1 ⟨_, rfl, d, la, ca, 2, rfl, hd, by decide, by decide, fun H1 i d1 hi => ⟨rfl, _, rfl, ?_⟩⟩))
  have ha1 := d1.1.seq ha
  by_cases z : decide (V.int (i : Nat) = V.int 0) = true
  · rw [z]
    refine ⟨_, rfl, a, xs, rfl, .inl ⟨out_in.seq ha1, fun l hl => ?_⟩⟩
    have n := d1.2.new hl
    exact q _ l (d1.same (Same.new hl)) (.inr (SqT.of (out_of upd_same n.1 n.2.1)))
  · rw [Bool.eq_false_iff.mpr z]
    refine ⟨_, rfl, a, xs, rfl, .inl (out_in.seq ha1), fun l hl => ?_⟩
    have n := d1.2.new hl
    exact q _ l (d1.same (Same.new hl)) (.inl (SqL.of (out_of upd_same n.1 n.2.1)))
abbrev N_shuffled : List Str := ["_law_draw", "_law_some", "_law_left", "_law_found"]
theorem sc_shuffled : FnScope N_shuffled ["_law_draw", "_law_some"] (defScope sl_shuffled) := ⟨rfl, rfl, rfl, by decide +kernel, rfl, by decide +kernel, by decide +kernel⟩
theorem f_law_shuffled (D : DefAt K mg "_law_shuffled" sl_shuffled) (T : Txt K mg) (f_take : FnS P w K mg base CX0 2 "_law_take" ["_law_draw", "_law_amount"] spTake) : FnS P w K mg base CX0 3 "_law_shuffled" ["_law_draw", "_law_some"] (spShuffled K) :=
  mkFn D sc_shuffled (fun _ _ _ _ _ _ us hl => match us, hl with | [_, _], _ => rfl) (fun vs H Q E ⟨_, _, _, _, _, e, _⟩ => by rw [e]; rfl) fun cdv A outer s H vs Q E hr ⟨d, la, ca, a, xs, e, hd, ha, l64, hv, q⟩ => by
  subst e
  have big : 10000 < sizeLine := by decide
  refine ⟨_, (pss_cons (ps_par (i := 2) (j := 3) rfl sc_shuffled.nd rfl rfl (by decide) rfl rfl (pa_cons (pe_callTy call_list_of (by rfl) T.list_ bo_list (pa_cons (pv 1) pa_nil)) (pa_cons (pe_lst pa_nil) pa_nil)) (by rfl))
      (pss_cons (ps_while (passes_of rfl) (pt_cmpR (op_neD hr.units) (pv 2) (pe_lst pa_nil) (nomark _)) (pss_one (ps_expr (pe_bm PySem.F.plainAttrs_list PySem.F.slot_list_append PySem.F.type_list_append mt_append (pv 3) (pa_cons (pe_bm PySem.F.plainAttrs_list PySem.F.slot_list_pop PySem.F.type_list_pop mt_popAt (pv 2) (pa_cons (pe_call f_take.ok (hr.mono (by decide)) rfl f_take.g f_take.kp f_take.b .nil pass0 (pa_cons (pv 0) (pa_cons (pe_callB call_len_seq (by rfl) T.len_ bo_len (pa_cons (pv 2) pa_nil)) pa_nil))) pa_nil)) pa_nil)))))
      (pss_one (ps_ret (pv 3))))), ?_⟩
  refine seq1 ⟨_, rfl, a, xs, rfl, .inl (out_in.seq ha), fun le hle => ⟨Nat.zero_le _, fun f hf => ⟨_, _, rfl, ?_⟩⟩⟩
  have s1 : Same H (upd H le (.lst xs)) := Same.new hle
  have s2 : Same (upd H le (.lst xs)) (upd (upd H le (.lst xs)) f (.lst [])) := Same.new hf
  have nl := hd.new hle
  have nf := (hd.mono s1).new hf
  have nfl : f ≠ le := ne_of_none' upd_same hf
  have d12 : Drn d la ca H (upd (upd H le (.lst xs)) f (.lst [])) := .of hd (s1.trans s2)
  refine seq1 ?_
  refine while_own (fun σ H' => ∃ (us ys : List V), σ = [some (.ref d), some (.ref a), some (.ref le), some (.ref f)] ∧ Drw H' d la ca ∧ (∀ b o, b ≠ d → b ≠ la → H b = some o → H' b = some o) ∧ H' le = some (.lst us) ∧ H' f = some (.lst ys) ∧ (ys ++ us).Perm xs) (fun (σ : L2.St) H' => match H' le with | some (.lst us) => us.length | _ => 0)
    ⟨xs, [], rfl, d12.2, fun b o n1 n2 hb => s2 _ _ (s1 _ _ hb), s2 _ _ upd_same, upd_same, List.Perm.refl _⟩ ?_
  rintro σ H1 ⟨us, ys, rfl, dw, kp, hl1, hf1, pm⟩
  have lens := pm.length_eq
  rw [List.length_append] at lens
  have so : Same (Out d la H) (Out d la H1) := fun b o hb => by
    have n := out_ne hb
    exact out_of (kp b o n.1 n.2 (out_in _ _ hb)) n.1 n.2
  refine ⟨_, rfl, Nat.zero_le _, fun o ho => ne_nilV (SqL.of (Same.new ho _ _ hl1)) (fun x hx => ?_) (SqL.of upd_same) ⟨_, rfl, ?_⟩⟩
  · have hx : x ∈ xs := pm.mem_iff.mp (List.mem_append.mpr (.inr hx))
    exact ((hv x hx).mono (so.trans out_in)).mono (Same.new ho)
  have s3 : Same H1 (upd H1 o (.lst [])) := Same.new ho
  by_cases z : us.length = 0
  · rw [decide_eq_true z]
    have uz : us = [] := List.eq_nil_of_length_eq_zero z
    rw [uz, List.append_nil] at pm
    refine ⟨_, rfl, q _ f ys ⟨so.trans (Same.out s3), dw.mono s3⟩ (s1.free hf) (s3 _ _ hf1) nf.1 nf.2.1 pm⟩
  · rw [decide_eq_false z]
    refine ⟨_, whN, ?_⟩
    refine ⟨_, rfl, .inl ⟨rfl, _, SqL.of (s3 _ _ hf1)⟩, _, rfl, .inl ⟨rfl, _, SqL.of (s3 _ _ hl1)⟩, _, rfl, _, rfl, le, us, rfl, .inl (SqL.of (s3 _ _ hl1)), d, la, ca, us.length, rfl, dw.mono s3, by omega, by omega, fun H4 i d4 hi => ?_⟩
    have hl4 : H4 le = some (.lst us) := d4.keep (s3 _ _ hl1) nl.1 nl.2.1
    have hf4 : H4 f = some (.lst ys) := d4.keep (s3 _ _ hf1) nf.1 nf.2.1
    refine ⟨le, us, _, i, us[i], rfl, rfl, hl4, by omega, by omega, ?_, List.getElem?_eq_getElem hi, ?_⟩
    · have := seqIndex_of (k := (i : Int)) (n := us.length) (by omega) (by omega)
      rw [this]
      exact congrArg some (Int.toNat_natCast i)
    have hf5 : (upd H4 le (.lst (us.eraseIdx i))) f = some (.lst ys) := by rw [upd_ne nfl]; exact hf4
    refine ⟨f, ys, us[i], rfl, rfl, hf5, by omega, ?_⟩
    have hl6 : (upd (upd H4 le (.lst (us.eraseIdx i))) f (.lst (ys ++ [us[i]]))) le = some (.lst (us.eraseIdx i)) := by rw [upd_ne nfl.symm]; exact upd_same
    refine ⟨⟨us.eraseIdx i, ys ++ [us[i]], rfl, ?_, fun b o' n1 n2 hb => ?_, hl6, upd_same, ?_⟩, ?_⟩
    · obtain ⟨r, t, lg, cs, h1, h2, h3, h4⟩ := d4.2
      exact ⟨r, t, lg, cs, by rw [upd_ne nf.1.symm, upd_ne nl.1.symm]; exact h1, by rw [upd_ne nf.2.1.symm, upd_ne nl.2.1.symm]; exact h2, by rw [upd_ne nf.2.2.symm, upd_ne nl.2.2.symm]; exact h3, h4⟩
    · have n3 : b ≠ f := ne_of_none (s1 _ _ hb) hf
      have n4 : b ≠ le := ne_of_none hb hle
      rw [upd_ne n3, upd_ne n4]
      exact d4.keep (s3 _ _ (kp b o' n1 n2 hb)) n1 n2
    · rw [List.append_assoc]
      exact ((erase_perm (List.getElem?_eq_getElem hi)).append_left ys).trans pm
    · rw [hl6, hl1]
      show (us.eraseIdx i).length < us.length
      rw [List.length_eraseIdx, if_pos hi]
      omega
end
end Kz
end
section
set_option Elab.async false
set_option linter.all false
set_option maxRecDepth 100000
set_option maxHeartbeats 4000000
/-! the law's draws, 3: webs -/
namespace Kz
open PySem PySem.Spec PyProof.Rows L2 KzM
/-- a comprehension that draws on -/
theorem lc_walkD {J : It} {n : Nat} {itm : Nat → V → Hp → Prop} {Ok : Hp → Prop} {g : TG} {tt : TT} {te : TE} {vs : List Nat} {σ : L2.St} {H : Hp} {Qd : Addr → Hp → Prop} {d la ca : Addr} (wk : Walks J n itm Ok) (hd : Drw H d la ca) (Elt : Addr → Nat → V → Hp → Prop)
    (stab : ∀ D i y H1 H2, (∀ b o, b ≠ D → b ≠ d → b ≠ la → H1 b = some o → H2 b = some o) → Elt D i y H1 → Elt D i y H2) (hz : n < sizeLine) (hOk : ∀ H', Drn d la ca H H' → Ok H')
    (step : ∀ D i x H' (C : VK) (N : Hp → Prop), i < n → itm i x H' → Drn d la ca H H' → H D = none → (∃ acc, H' D = some (.lst acc)) → (∀ y H4, Drn d la ca H' H4 → Elt D i y H4 → C y H4) → (∀ H4, Drn d la ca H' H4 → N H4) →
      g x (wipe σ vs) H' fun σ2 H2 => wipe σ2 vs = wipe σ vs ∧ tt σ2 H2 fun b H3 => if b = true then te σ2 H3 C else N H3)
    (done : ∀ D H' ys js, Drn d la ca H H' → H D = none → D ≠ d → D ≠ la → H' D = some (.lst ys) → js.Sublist (List.range n) → Paired (fun i y => Elt D i y H') js ys → Qd D H') :
    ∀ D, H D = none → ∃ W : Nat → Nat → Hp → Prop, (∃ m, W 0 m (upd H D (.lst []))) ∧ ∀ i m H, W i m H →
      (J.stop i H ∧ Qd D H) ∨ (J.go i H ∧ ∃ Nx : Hp → Prop, (∀ H', Nx H' → ∃ m', m' < m ∧ W (i + 1) m' H') ∧ ∀ x H', J.yld i H x H' → g x (wipe σ vs) H' fun σ2 H2 => wipe σ2 vs = wipe σ vs ∧ tt σ2 H2 fun b H3 =>
        if b = true then te σ2 H3 fun y H4 => ∃ acc, H4 D = some (.lst acc) ∧ acc.length < sizeLine ∧ Nx (upd H4 D (.lst (acc ++ [y]))) else Nx H3) := by
  intro D hD
  have nD := hd.new hD
  let Pv : Nat → Hp → Prop := fun i H' => Drn d la ca H H' ∧ ∃ ys js, H' D = some (.lst ys) ∧ js.Sublist (List.range i) ∧ Paired (fun j y => Elt D j y H') js ys
  refine ⟨fun i m H' => m = n - i ∧ i ≤ n ∧ Pv i H', ⟨n, by simp, Nat.zero_le _, .of hd (Same.new hD), [], [], upd_same, List.Sublist.refl _, .nil⟩, ?_⟩
  rintro i m H1 ⟨rfl, hi, d1, ys, js, e1, sb, r1⟩
  have ok1 := hOk _ d1
  by_cases hlt : i < n
  · refine .inr ⟨wk.go i H1 hlt ok1, Pv (i + 1), fun H' p' => ⟨n - (i + 1), by omega, rfl, hlt, p'⟩, fun x H2 y => ?_⟩
    obtain ⟨it, s2⟩ := wk.yld i H1 x H2 hlt ok1 y
    have d2 := d1.same s2
    have keep : ∀ H4, Drn d la ca H2 H4 → H4 D = some (.lst ys) := fun H4 d4 => d4.keep (s2 _ _ e1) nD.1 nD.2.1
    have fr : ∀ H4, Drn d la ca H2 H4 → ∀ b o, b ≠ d → b ≠ la → H1 b = some o → H4 b = some o := fun H4 d4 b o n1 n2 hb => d4.keep (s2 _ _ hb) n1 n2
    refine step D i x H2 _ _ hlt it d2 hD ⟨ys, s2 _ _ e1⟩ (fun y H4 d4 el => ?_) fun H4 d4 => ?_
    · have len : ys.length ≤ n := by
        rw [← paired_len r1]
        exact Nat.le_trans sb.length_le (by rw [List.length_range]; exact hi)
      have d14 := d2.trans d4
      refine ⟨ys, keep _ d4, by omega, ⟨fun b o hb => ?_, ?_⟩, _, js ++ [i], upd_same, ?_, ?_⟩
      · have n3 : b ≠ D := ne_of_none (out_in _ _ hb) hD
        have n4 := out_ne hb
        exact out_of (by rw [upd_ne n3]; exact out_in _ _ (d14.1 _ _ hb)) n4.1 n4.2
      · obtain ⟨r, t, lg, cs, h1, h2, h3, h4⟩ := d4.2
        exact ⟨r, t, lg, cs, by rw [upd_ne nD.1.symm]; exact h1, by rw [upd_ne nD.2.1.symm]; exact h2, by rw [upd_ne nD.2.2.symm]; exact h3, h4⟩
      · rw [List.range_succ]
        exact sb.append (List.Sublist.refl _)
      · refine paired_app (paired_imp r1 fun a c z => stab _ _ _ _ _ (fun b o nb n1 n2 q => ?_) z) (stab _ _ _ H4 _ (fun b o nb _ _ q => by rw [upd_ne nb]; exact q) el)
        rw [upd_ne nb]
        exact fr _ d4 b o n1 n2 q
    · refine ⟨d2.trans d4, ys, js, keep _ d4, ?_, paired_imp r1 fun a b z => stab _ _ _ _ _ (fun b o _ n1 n2 q => fr _ d4 b o n1 n2 q) z⟩
      rw [List.range_succ]
      exact sb.trans (List.sublist_append_left _ _)
  · have e : i = n := by omega
    subst e
    exact .inl ⟨wk.stop _ ok1, done D H1 ys js d1 hD nD.1 nD.2.1 e1 sb r1⟩
/-- the lines at a list, each a list or a tuple -/
def LinesL (K : PySem.W.Frag) (H : Hp) (a : Addr) (trs : List Trip) : Prop := ∃ ts : List Addr, SqL K H a (ts.map V.ref) ∧ Paired (fun t x => LineX K H t x) ts trs
theorem LinesL.mono {K : PySem.W.Frag} {H H' : Hp} {a : Addr} {trs : List Trip} (s : Same H H') (h : LinesL K H a trs) : LinesL K H' a trs := by
  obtain ⟨ts, h1, h2⟩ := h
  exact ⟨ts, s.seq h1, paired_imp h2 fun _ _ r => s.seqX r⟩
/-- paired lists, the first in another order -/
theorem paired_perm {α β : Type} {F : α → β → Prop} {l l' : List α} (p : l'.Perm l) : ∀ {m : List β}, Paired F l m → ∃ m', m'.Perm m ∧ Paired F l' m' := by
  induction p with
  | nil =>
    intro m h
    cases h
    exact ⟨[], List.Perm.refl _, .nil⟩
  | cons x _ ih =>
    intro m h
    cases h with
    | cons r t =>
      obtain ⟨m', p', h'⟩ := ih t
      exact ⟨_ :: m', p'.cons _, .cons r h'⟩
  | swap x y l =>
    intro m h
    cases h with
    | cons r t =>
      cases t with
      | cons r2 t2 => exact ⟨_, List.Perm.swap _ _ _, .cons r2 (.cons r t2)⟩
  | trans _ _ ih1 ih2 =>
    intro m h
    obtain ⟨m1, p1, h1⟩ := ih2 h
    obtain ⟨m2, p2, h2⟩ := ih1 h1
    exact ⟨m2, p2.trans p1, h2⟩
theorem prsTo_at (n : Nat) : ∀ a, a ≤ n → ∀ x ∈ prsTo n a, x.1 < a ∧ x.1 < x.2 ∧ x.2 < n
  | 0, _, x, h => by cases h
  | a + 1, ha, x, h => by
    rcases List.mem_append.mp h with q | q
    · have := prsTo_at n a (by omega) x q
      omega
    · obtain ⟨i, hi, rfl⟩ := List.mem_map.mp q
      have := List.mem_range.mp hi
      show a < a + 1 ∧ a < a + 1 + i ∧ a + 1 + i < n
      omega
theorem prsTo_nodup (n : Nat) : ∀ a, a ≤ n → (prsTo n a).Nodup
  | 0, _ => List.nodup_nil
  | a + 1, ha => by
    show (prsTo n a ++ _).Nodup
    rw [List.nodup_append]
    refine ⟨prsTo_nodup n a (by omega), ?_, fun x hx y hy e => ?_⟩
    · exact List.Pairwise.map _ (fun i j h e => h (by
        have := (Prod.mk.inj e).2
        omega)) List.nodup_range
    · obtain ⟨i, hi, rfl⟩ := List.mem_map.mp hy
      have := (prsTo_at n a (by omega) x hx).1
      rw [e] at this
      have this : a < a := this
      omega
/-! ### the heap without the state and without one list -/
abbrev Out2 (d la f : Addr) (H : Hp) : Hp := Out f f (Out d la H)
theorem out2_upd {d la f : Addr} {H : Hp} {o : HO} : Out2 d la f (upd H f o) = Out2 d la f H := funext fun b => by
  unfold Out2 Out
  by_cases z : b = f ∨ b = f
  · rw [if_pos z, if_pos z]
  · rw [if_neg z, if_neg z]
    by_cases z2 : b = d ∨ b = la
    · rw [if_pos z2, if_pos z2]
    · rw [if_neg z2, if_neg z2, upd_ne fun e => z (.inl e)]
theorem out2_in {d la f : Addr} {H : Hp} : Same (Out2 d la f H) H := out_in.trans out_in
theorem out2_one {d la f : Addr} {H : Hp} : Same (Out2 d la f H) (Out d la H) := out_in
theorem Same.out2 {d la f : Addr} {H H' : Hp} (s : Same H H') : Same (Out2 d la f H) (Out2 d la f H') := Same.out (Same.out s)
theorem Drn.out2 {d la ca f : Addr} {H H' : Hp} (a : Drn d la ca H H') : Same (Out2 d la f H) (Out2 d la f H') := Same.out a.1
theorem out2_of {d la f b : Addr} {H : Hp} {o : HO} (h : H b = some o) (n1 : b ≠ d) (n2 : b ≠ la) (n3 : b ≠ f) : Out2 d la f H b = some o := out_of (out_of h n1 n2) n3 n3
theorem sqT_out {K : PySem.W.Frag} {d la ca a : Addr} {H : Hp} {xs : List V} (hd : Drw H d la ca) (h : SqT K H a xs) : SqT K (Out d la H) a xs := by
  obtain ⟨r, t, lg, cs, h1, h2, h3, h4⟩ := hd
  rcases h with (h | ⟨o, h⟩) | h
  · exact .inl (.inl (out_of h (ne_of h h1 (by intro z; cases z)) (ne_of h h2 (by intro z; cases z))))
  · exact .inl (.inr ⟨o, out_of h (ne_of h h1 (by intro z; cases z)) (ne_of h h2 (by intro z; cases z))⟩)
  · exact .inr h
theorem sqT_off {K : PySem.W.Frag} {f a : Addr} {H : Hp} {xs ys : List V} (hf : H f = some (.lst ys)) (h : SqT K H a xs) : SqT K (Out f f H) a xs := by
  rcases h with (h | ⟨o, h⟩) | h
  · exact .inl (.inl (out_of h (ne_of h hf (by intro z; cases z)) (ne_of h hf (by intro z; cases z))))
  · exact .inl (.inr ⟨o, out_of h (ne_of h hf (by intro z; cases z)) (ne_of h hf (by intro z; cases z))⟩)
  · exact .inr h
theorem Drw.upd {d la ca f : Addr} {H : Hp} {o : HO} (h : Drw H d la ca) (n1 : f ≠ d) (n2 : f ≠ la) (n3 : f ≠ ca) : Drw (upd H f o) d la ca := by
  obtain ⟨r, t, lg, cs, h1, h2, h3, h4⟩ := h
  exact ⟨r, t, lg, cs, by rw [upd_ne n1.symm]; exact h1, by rw [upd_ne n2.symm]; exact h2, by rw [upd_ne n3.symm]; exact h3, h4⟩
theorem take_succ' {α : Type} {l : List α} {i : Nat} {a : α} (h : l[i]? = some a) : l.take (i + 1) = l.take i ++ [a] := by
  rw [List.take_add_one, h]
  rfl
theorem rgV_nats (n : Nat) : rgV 0 n = natV (List.range n) := by
  unfold rgV natV
  rw [show ((n : Int) - 0).toNat = n by omega]
  exact List.map_congr_left fun i _ => by rw [show (0 : Int) + (i : Int) = (i : Int) by omega]
theorem nats_of {ns : List Nat} {ys : List V} (p : ys.Perm (natV ns)) : ∃ ms : List Nat, ms.Perm ns ∧ ys = natV ms := perm_map_of p rfl
theorem dv_nats {K : PySem.W.Frag} {H : Hp} {ns : List Nat} : ∀ x ∈ natV ns, Dv K H x := fun x h => by
  obtain ⟨i, _, rfl⟩ := List.mem_map.mp h
  exact .inl ⟨_, rfl⟩
theorem dv_lines {K : PySem.W.Frag} {H : Hp} : ∀ {ts : List Addr} {trs : List Trip}, Paired (fun t x => LineX K H t x) ts trs → ∀ x ∈ ts.map V.ref, Dv K H x
  | _, _, .nil, x, h => by cases h
  | _, _, .cons (b := b) r t, x, h => by
    rcases List.mem_cons.mp h with q | q
    · rw [q]
      exact .inr ⟨_, [(b.1 : Int), (b.2.1 : Int), b.2.2], rfl, r⟩
    · exact dv_lines t x q
/-- the indices kept, and what was made of them -/
theorem paired_vals {xs : List V} {ns : List Nat} (e : xs = natV ns) {H : Hp} : ∀ {js : List Nat} {ys : List V}, Paired (fun i y => xs[i]? = some y) js ys → ys = natV (js.filterMap fun i => ns[i]?) ∧ (js.filterMap fun i => ns[i]?).length = js.length
  | _, _, .nil => ⟨rfl, rfl⟩
  | i :: js, y :: ys, .cons r t => by
    obtain ⟨h1, h2⟩ := paired_vals e (H := H) t
    rw [e, List.getElem?_map] at r
    cases ei : ns[i]? with
    | none => rw [ei] at r; cases r
    | some k =>
      rw [ei] at r
      have r : V.int (k : Nat) = y := Option.some.inj r
      rw [List.filterMap_cons, ei]
      exact ⟨by rw [h1, ← r]; rfl, by simp [h2]⟩
theorem filterMap_take {α : Type} (l : List α) : ∀ n, (List.range n).filterMap (fun i => l[i]?) = l.take n
  | 0 => rfl
  | n + 1 => by
    rw [List.range_succ, List.filterMap_append, filterMap_take l n, List.take_add_one]
    rw [List.filterMap_cons]
    cases l[n]? <;> rfl
/-- the kept ones are a part of all, in their order -/
theorem kept_sub {α : Type} {l : List α} {js : List Nat} (h : js.Sublist (List.range l.length)) : (js.filterMap fun i => l[i]?).Sublist l := by
  have := h.filterMap fun i => l[i]?
  rw [filterMap_take, List.take_length] at this
  exact this
def spDrawnWeb (K : PySem.W.Frag) : Sp := fun vs H Q _ => ∃ (d la ca : Addr) (p : Int) (n : Nat), vs = [.ref d, .int p, .int (n : Nat)] ∧ Drw H d la ca ∧ p ∈ fieldsL ∧ 1 ≤ n ∧ n ≤ 5 ∧
  ∀ H' t a o trs ns, Drn d la ca H H' → SqT K (Out d la H') t [.ref a, .ref o] → LinesL K (Out d la H') a trs → SqL K (Out d la H') o (natV ns) → WebOk n trs ns → Q (.ref t) H'
def spRing (K : PySem.W.Frag) : Sp := fun vs H Q _ => ∃ (d la ca : Addr) (p : Int), vs = [.ref d, .int p] ∧ Drw H d la ca ∧ p ∈ fieldsL ∧
  ∀ H' a trs, Drn d la ca H H' → LinesL K (Out d la H') a trs → WebOk 5 trs [] → Q (.ref a) H'
section
variable {P : Program} {w : World} {K : PySem.W.Frag} {mg : Str → Option Value} {base : Heap}
abbrev N_drawn_web : List Str := ["_law_draw", "_law_field_here", "_law_letters", "_law_much", "_law_found", "_law_a", "_law_b", "_law_number", "_law_nothings_here", "_law_k"]
theorem sc_drawn_web : FnScope N_drawn_web ["_law_draw", "_law_field_here", "_law_letters"] (defScope sl_drawn_web) := ⟨rfl, rfl, rfl, by decide +kernel, rfl, by decide +kernel, by decide +kernel⟩
theorem f_law_drawn_web (D : DefAt K mg "_law_drawn_web" sl_drawn_web) (T : Txt K mg) (f_take : FnS P w K mg base CX0 2 "_law_take" ["_law_draw", "_law_amount"] spTake) (f_pairs : FnS P w K mg base CX0 1 "_law_pairs" ["_law_letters"] (spPairs K))
    (f_shuffled : FnS P w K mg base CX0 3 "_law_shuffled" ["_law_draw", "_law_some"] (spShuffled K)) : FnS P w K mg base CX0 4 "_law_drawn_web" ["_law_draw", "_law_field_here", "_law_letters"] (spDrawnWeb K) :=
  mkFn D sc_drawn_web (fun _ _ _ _ _ _ us hl => match us, hl with | [_, _, _], _ => rfl) (fun vs H Q E ⟨_, _, _, _, _, e, _⟩ => by rw [e]; rfl) fun cdv A outer s H vs Q E hr ⟨d, la, ca, p, n, e, hd, hp, n1, n5, q⟩ => by
  subst e
  have big : 10000 < sizeLine := by decide
  have hp2 := fields_pos hp
  refine ⟨_, (pss_cons (ps_par (i := 3) (j := 4) rfl sc_drawn_web.nd rfl rfl (by decide) rfl rfl (pa_cons (pe_call f_take.ok (hr.mono (by decide)) rfl f_take.g f_take.kp f_take.b .nil pass0 (pa_cons (pv 0) (pa_cons pe_int pa_nil))) (pa_cons (pe_lst pa_nil) pa_nil)) (by rfl))
      (pss_cons (ps_for (passes_of rfl) rfl (pi_list (pe_call f_pairs.ok (hr.mono (by decide)) rfl f_pairs.g f_pairs.kp f_pairs.b .nil pass0 (pa_cons (pv 2) pa_nil))) (pg_tup rfl (pgs_cons (pg_name (i := 5) sc_drawn_web.nd rfl (.inl rfl)) (pgs_cons (pg_name (i := 6) sc_drawn_web.nd rfl (.inl rfl)) pgs_nil))) (pss_one (ps_if (pt_cmpR op_lt (pe_call f_take.ok (hr.mono (by decide)) rfl f_take.g f_take.kp f_take.b .nil pass0 (pa_cons (pv 0) (pa_cons pe_int pa_nil))) (pv 3) (nomark _)) (pss_cons (ps_set (i := 7) sc_drawn_web.nd rfl (.inl rfl) (pe_op op_add (pe_op op_add pe_int (pe_call f_take.ok (hr.mono (by decide)) rfl f_take.g f_take.kp f_take.b .nil pass0 (pa_cons (pv 0) (pa_cons (pe_op op_sub (pv 1) pe_int) pa_nil)))) (pe_op op_mul (pv 1) (pe_op op_sub (pe_call f_take.ok (hr.mono (by decide)) rfl f_take.g f_take.kp f_take.b .nil pass0 (pa_cons (pv 0) (pa_cons pe_int pa_nil))) pe_int))))
      (pss_one (ps_expr (pe_bm PySem.F.plainAttrs_list PySem.F.slot_list_append PySem.F.type_list_append mt_append (pv 4) (pa_cons (pe_ifExp (pt_cmpR op_eq (pe_call f_take.ok (hr.mono (by decide)) rfl f_take.g f_take.kp f_take.b .nil pass0 (pa_cons (pv 0) (pa_cons pe_int pa_nil))) pe_int (nomark _)) (pe_tup (pa_cons (pv 5) (pa_cons (pv 6) (pa_cons (pv 7) pa_nil)))) (pe_lst (pa_cons (pv 5) (pa_cons (pv 6) (pa_cons (pv 7) pa_nil))))) pa_nil))))) pss_nil)))
      (pss_cons (ps_setLc (i := 8) (own := [("_law_k", 9)]) (g := (gName 9)) rfl sc_drawn_web.nd rfl rfl (sw_true rfl rfl rfl (by decide +kernel)) (pi_list (pe_call f_shuffled.ok (hr.mono (by decide)) rfl f_shuffled.g f_shuffled.kp f_shuffled.b .nil pass0 (pa_cons (pv 0) (pa_cons (pe_listRg rfl rfl T.list_ (prg_1 rfl T.range_ (pv 2))) pa_nil)))) (blkOk_by (N := N_drawn_web) (sc := defScope sl_drawn_web) (by decide +kernel)) (fun _ _ _ _ _ => (pg_name (i := 9) sc_drawn_web.nd rfl (.inl rfl))) (fun _ _ _ _ _ => (pts_one (pt_cmpR op_eq (pe_call f_take.ok (hr.mono (by decide)) rfl f_take.g f_take.kp f_take.b .nil pass0 (pa_cons (pv 0) (pa_cons pe_int pa_nil))) pe_int (nomark _)))) (fun _ _ _ _ _ => (pv 9)))
      (pss_one (ps_ret (pe_tup (pa_cons (pe_call f_shuffled.ok (hr.mono (by decide)) rfl f_shuffled.g f_shuffled.kp f_shuffled.b .nil pass0 (pa_cons (pv 0) (pa_cons (pv 4) pa_nil))) (pa_cons (pv 8) pa_nil)))))))), ?_⟩
  refine seq1 ⟨_, rfl, d, la, ca, 5, rfl, hd, by decide, by decide, fun H1 much d1 hmuch => ⟨Nat.zero_le _, fun f hf => ⟨_, _, rfl, ?_⟩⟩⟩
  have nf := d1.2.new hf
  have d2 := d1.same (Same.new (o := .lst []) hf)
  refine seq1 ⟨_, rfl, n, rfl, n5, fun H3 pl s3 hpl ⟨ks, k1, k2, k3⟩ => ⟨pl, rfl, ⟨_, k1⟩, ?_⟩⟩
  have d3 := d2.same s3
  have npl := d2.2.new hpl
  have kl : ks.length = (prsTo n n).length := by
    have := congrArg List.length k3
    rw [List.length_map, List.length_map] at this
    exact this
  have lp := prsTo_len n n
  have lpi : n * n ≤ 25 := Nat.mul_le_mul n5 n5
  have f3 : H3 f = some (.lst []) := s3 _ _ upd_same
  have nplf : pl ≠ f := ne_of_none' upd_same hpl
  have k1' : SqL K (Out2 d la f H3) pl (ks.map fun p => V.ref p.1) := by
    rcases k1 with (h | ⟨o, h⟩) | h
    · exact .inl (.inl (out2_of h npl.1 npl.2.1 nplf))
    · exact .inl (.inr ⟨o, out2_of h npl.1 npl.2.1 nplf⟩)
    · exact .inr h
  have k2' : ∀ p ∈ ks, SqT K (Out2 d la f H3) p.1 (p.2.map V.int) := fun p hp => by
    have h1 := sqT_off f3 (k2 p hp)
    have h2 := sqT_out d3.2 (k2 p hp)
    rcases k2 p hp with (h | ⟨o, h⟩) | h
    · have n1 := d3.2.ne
      obtain ⟨r, t, lg, cs, g1, g2, g3, g4⟩ := id d3.2
      exact .inl (.inl (out2_of h (ne_of h g1 (by intro z; cases z)) (ne_of h g2 (by intro z; cases z)) (ne_of h f3 (by intro z; cases z))))
    · obtain ⟨r, t, lg, cs, g1, g2, g3, g4⟩ := id d3.2
      exact .inl (.inr ⟨o, out2_of h (ne_of h g1 (by intro z; cases z)) (ne_of h g2 (by intro z; cases z)) (ne_of h f3 (by intro z; cases z))⟩)
    · exact .inr h
  refine for_walk (wk_list (K := K) (xs := ks.map fun p => V.ref p.1)) (fun i σ H' => ∃ (x5 x6 x7 x8 x9 : Option V) (ts : List Addr) (trs : List Trip), σ = [some (.ref d), some (.int p), some (.int (n : Nat)), some (.int (much : Nat)), some (.ref f), x5, x6, x7, x8, x9] ∧ Drw H' d la ca ∧ Same (Out2 d la f H3) (Out2 d la f H') ∧ H' f = some (.lst (ts.map V.ref)) ∧ Paired (fun t x => LineX K (Out2 d la f H') t x) ts trs ∧ (trs.map fun x => (x.1, x.2.1)).Sublist ((prsTo n n).take i))
    ⟨_, _, _, _, _, [], [], rfl, d3.2, Same.refl _, f3, .nil, List.Sublist.refl _⟩ (fun _ σ H' _ ⟨_, _, _, _, _, _, _, _, _, z, _⟩ => out2_in.seq (z.seq k1')) (fun i x σ H4 H5 hi ⟨x5, x6, x7, x8, x9, ts, trs, eσ, dw, so, e4, pr, sb⟩ s5 it => ?_) fun σ H4 ⟨x5, x6, x7, x8, x9, ts, trs, eσ, dw, so, e4, pr, sb⟩ => ?_
  · subst eσ
    have hi' : i < ks.length := by
      rw [List.length_map] at hi
      exact hi
    obtain ⟨q1, eq1⟩ : ∃ q1, ks[i]? = some q1 := ⟨_, List.getElem?_eq_getElem hi'⟩
    obtain ⟨ab, eab⟩ : ∃ ab, (prsTo n n)[i]? = some ab := ⟨_, List.getElem?_eq_getElem (by rw [← kl]; exact hi')⟩
    have ex : x = V.ref q1.1 := by
      have h1 : (ks.map fun p => V.ref p.1)[i]? = some x := it
      rw [List.getElem?_map, eq1] at h1
      exact (Option.some.inj h1).symm
    subst ex
    have e2p : q1.2 = prI ab := by
      have h1 : (ks.map (·.2))[i]? = some (prI ab) := by rw [k3, List.getElem?_map, eab]; rfl
      rw [List.getElem?_map, eq1] at h1
      exact Option.some.inj h1
    have so5 := so.trans (Same.out2 s5)
    have hq : SqT K H5 q1.1 ([.int (ab.1 : Nat), .int (ab.2 : Nat)]) := by
      have := k2' q1 (List.mem_of_getElem? eq1)
      rw [e2p] at this
      exact out2_in.seqT (so5.seqT this)
    have tk := take_succ' eab
    have stay : ∀ H', Drn d la ca H5 H' → ∀ (y5 y6 y7 y8 y9 : Option V), ∃ (x5 x6 x7 x8 x9 : Option V) (ts : List Addr) (trs : List Trip), [some (V.ref d), some (.int p), some (.int (n : Nat)), some (.int (much : Nat)), some (.ref f), y5, y6, y7, y8, y9] = [some (V.ref d), some (.int p), some (.int (n : Nat)), some (.int (much : Nat)), some (.ref f), x5, x6, x7, x8, x9] ∧ Drw H' d la ca ∧ Same (Out2 d la f H3) (Out2 d la f H') ∧ H' f = some (.lst (ts.map V.ref)) ∧ Paired (fun t x => LineX K (Out2 d la f H') t x) ts trs ∧ (trs.map fun x => (x.1, x.2.1)).Sublist ((prsTo n n).take (i + 1)) := fun H' dr y5 y6 y7 y8 y9 =>
      ⟨y5, y6, y7, y8, y9, ts, trs, rfl, dr.2, so5.trans dr.out2, dr.keep (s5 _ _ e4) nf.1 nf.2.1, paired_imp pr fun _ _ z => (Same.out2 s5 |>.trans dr.out2).seqX z, by rw [tk]; exact sb.trans (List.sublist_append_left _ _)⟩
    refine ⟨q1.1, _, rfl, hq, rfl, _, _, rfl, _, _, rfl, rfl, ?_⟩
    refine if1 (test1 (op1 ⟨_, rfl, d, la, ca, 4, rfl, dw.mono s5, by decide, by decide, fun H6 v6 d6 h6 => ⟨_, rfl, _, _, rfl, rfl, _, rfl, ?_⟩⟩))
    by_cases c : ((v6 : Nat) : Int) < ((much : Nat) : Int)
    · rw [decide_eq_true c]
      refine iteT' rfl ?_
      refine seq1 ⟨_, rfl, _, rfl, _, _, rfl, rfl, d, la, ca, (p - 1).toNat, ?_, d6.2, by omega, by omega, fun H7 v7 d7 h7 => ⟨_, _, rfl, rfl, _, rfl, _, rfl, d, la, ca, 3, rfl, d7.2, by decide, by decide, fun H8 v8 d8 h8 => ⟨_, _, rfl, rfl, _, _, rfl, rfl, .inl ⟨by omega, by omega⟩, _, _, rfl, rfl, ?_⟩⟩⟩
      · show [V.ref d, V.int (p - 1)] = _
        rw [Int.toNat_of_nonneg (by omega)]
      have d58 := d6.trans (d7.trans d8)
      have f8 := d58.keep (s5 _ _ e4) nf.1 nf.2.1
      dsimp only
      refine ⟨_, rfl, .inl ⟨rfl, _, SqL.of f8⟩, test1 (op1 ⟨_, rfl, d, la, ca, 2, rfl, d8.2, by decide, by decide, fun H9 v9 d9 h9 => ⟨rfl, _, rfl, ?_⟩⟩)⟩
      have d59 := d58.trans d9
      have f9 := d59.keep (s5 _ _ e4) nf.1 nf.2.1
      have tsl : ts.length ≤ 25 := by
        have := sb.length_le
        rw [List.length_map, List.length_take] at this
        rw [paired_len pr]
        omega
      have more : ∀ (H' : Hp) (t : Addr) (z : Int), Same H9 H' → SqX K (Out2 d la f H') t [.int (ab.1 : Nat), .int (ab.2 : Nat), .int z] → Drw (upd H' f (.lst (ts.map V.ref ++ [V.ref t]))) d la ca ∧ Same (Out2 d la f H3) (Out2 d la f (upd H' f (.lst (ts.map V.ref ++ [V.ref t])))) ∧ (upd H' f (.lst (ts.map V.ref ++ [V.ref t]))) f = some (.lst ((ts ++ [t]).map V.ref)) ∧ Paired (fun u x => LineX K (Out2 d la f (upd H' f (.lst (ts.map V.ref ++ [V.ref t])))) u x) (ts ++ [t]) (trs ++ [(ab.1, ab.2, z)]) ∧ ((trs ++ [(ab.1, ab.2, z)]).map fun x => (x.1, x.2.1)).Sublist ((prsTo n n).take (i + 1)) := fun H' t z s9 hx => by
        have so9 : Same (Out2 d la f H4) (Out2 d la f H') := (Same.out2 s5).trans (d59.out2.trans (Same.out2 s9))
        rw [out2_upd]
        refine ⟨(d59.2.mono s9).upd nf.1 nf.2.1 nf.2.2, so.trans so9, by rw [upd_same, List.map_append]; rfl, paired_app (paired_imp pr fun _ _ z => so9.seqX z) hx, ?_⟩
        rw [tk, List.map_append]
        exact sb.append (List.Sublist.refl _)
      by_cases c9 : decide (V.int (v9 : Nat) = V.int 0) = true
      · rw [c9]
        refine ⟨_, rfl, _, rfl, _, rfl, (by show 3 ≤ sizeLine; decide), fun t ht => ?_⟩
        have nt := d59.2.new ht
        have ntf : t ≠ f := ne_of_none' f9 ht
        obtain ⟨m1, m2, m3, m4, m5⟩ := more _ t _ (Same.new ht) (.inr (SqT.of (out2_of upd_same nt.1 nt.2.1 ntf)))
        exact ⟨f, _, _, rfl, rfl, Same.new ht _ _ f9, by rw [List.length_map]; omega, _, _, _, _, _, _, _, rfl, m1, m2, m3, m4, m5⟩
      · rw [Bool.eq_false_iff.mpr c9]
        refine ⟨_, rfl, _, rfl, _, rfl, (by show 3 ≤ sizeLine; decide), fun t ht => ?_⟩
        have nt := d59.2.new ht
        have ntf : t ≠ f := ne_of_none' f9 ht
        obtain ⟨m1, m2, m3, m4, m5⟩ := more _ t _ (Same.new ht) (.inl (SqL.of (out2_of upd_same nt.1 nt.2.1 ntf)))
        exact ⟨f, _, _, rfl, rfl, Same.new ht _ _ f9, by rw [List.length_map]; omega, _, _, _, _, _, _, _, rfl, m1, m2, m3, m4, m5⟩
    · rw [decide_eq_false c]
      exact stay H6 d6 _ _ _ _ _
  · subst eσ
    dsimp only
    rw [List.length_map, kl, List.take_length] at sb
    have so4 : Same (Out d la H) (Out d la H4) := fun b o hb => by
      have h1 : Out d la H1 b = some o := d1.1 _ _ hb
      have h3 : Out d la H3 b = some o := Same.out ((Same.new hf).trans s3) _ _ h1
      have nb : b ≠ f := ne_of_none (out_in _ _ h1) hf
      exact out2_one _ _ (so _ _ (out_of h3 nb nb))
    have d4 : Drn d la ca H H4 := ⟨so4, dw⟩
    have l25 : ts.length ≤ 25 := by
      have := sb.length_le
      rw [List.length_map] at this
      rw [paired_len pr]
      omega
    refine seq1 ⟨_, rfl, _, rfl, _, rfl, ⟨by omega, by omega, by omega, by omega, by omega⟩, fun r hr0 => ?_⟩
    have nr := dw.new hr0
    have s5 : Same H4 (upd H4 r (.lst (rgV 0 n))) := Same.new hr0
    refine ⟨d, la, ca, r, natV (List.range n), rfl, dw.mono s5, SqL.of (out_of (by rw [upd_same, rgV_nats]) nr.1 nr.2.1), by rw [List.length_map, List.length_range]; omega, dv_nats, fun H6 g ys d6 hg eg g1 g2 pm => ⟨g, rfl, ⟨_, SqL.of eg⟩, ?_⟩⟩
    obtain ⟨ms, pms, rfl⟩ := nats_of pm
    have ml : ms.length = n := by rw [pms.length_eq, List.length_range]
    have d46 : Drn d la ca H4 H6 := (Drn.of dw s5).trans d6
    have f6 : H6 f = some (.lst (ts.map V.ref)) := d46.keep e4 nf.1 nf.2.1
    refine lc_walkD (wk_list (K := K) (xs := natV ms)) d46.2 (fun D i y H => (natV ms)[i]? = some y) (fun _ _ _ _ _ _ z => z) (by rw [List.length_map]; omega) (fun H' dr => SqL.of (dr.keep eg g1 g2)) (fun DD i x H7 C N hi it d7 hDD ac kC kN => ?_) fun DD H7 ys js d7 hDD nd1 nd2 e7 sbj pj => ?_
    · refine ⟨rfl, _, rfl, d, la, ca, 3, rfl, d7.2, by decide, by decide, fun H8 v d8 hv => ⟨rfl, _, rfl, ?_⟩⟩
      by_cases c : decide (V.int (v : Nat) = V.int 0) = true
      · rw [c]
        exact ⟨_, rfl, kC _ _ d8 it⟩
      · rw [Bool.eq_false_iff.mpr c]
        exact kN _ d8
    · obtain ⟨rfl, lj⟩ := paired_vals (ns := ms) rfl (H := H7) pj
      rw [List.length_map] at sbj
      have ks := kept_sub sbj
      have d47 := d46.trans d7
      have f7 : H7 f = some (.lst (ts.map V.ref)) := d7.keep f6 nf.1 nf.2.1
      have so7 : Same (Out2 d la f H4) (Out d la H7) := d47.out2.trans out2_one
      dsimp only
      refine ret1 ⟨_, rfl, _, rfl, d, la, ca, f, ts.map V.ref, rfl, d7.2, SqL.of (out_of f7 nf.1 nf.2.1), by rw [List.length_map]; omega, dv_lines (paired_imp pr fun _ _ z => so7.seqX z), fun H9 g9 ys9 d9 hg9 eg9 g91 g92 pm9 => ⟨_, rfl, (by show 2 ≤ sizeLine; decide), fun t ht => ?_⟩⟩
      obtain ⟨us, pus, eus⟩ : ∃ us : List Addr, us.Perm ts ∧ ys9 = us.map V.ref := perm_map_of pm9 rfl
      obtain ⟨trs', ptr, pr'⟩ := paired_perm pus pr
      have n9 := d9.2.new ht
      have s9 : Same H9 (upd H9 t (.tup [.ref g9, .ref DD])) := Same.new ht
      have d10 : Drn d la ca H7 (upd H9 t (.tup [.ref g9, .ref DD])) := d9.same s9
      have pp := ptr.map fun x : Trip => (x.1, x.2.1)
      have l10 : ∀ n ∈ List.range 6, (prsTo n n).length ≤ 10 := by decide
      refine q _ t g9 DD trs' (js.filterMap fun i => ms[i]?) (d4.trans (d47.trans d10)) (SqT.of (out_of upd_same n9.1 n9.2.1)) ⟨us, SqL.of (out_of (s9 _ _ (by rw [eg9, eus])) g91 g92), paired_imp pr' fun _ _ z => (so7.trans d10.1).seqX z⟩ (SqL.of (d10.1 _ _ (out_of e7 nd1 nd2))) ?_
      refine ⟨n1, n5, fun x hx => ?_, ?_, ?_, fun x hx => ?_, ?_⟩
      · have m1 : (x.1, x.2.1) ∈ prsTo n n := sb.subset (List.mem_map.mpr ⟨x, ptr.mem_iff.mp hx, rfl⟩)
        have := prsTo_at n n (Nat.le_refl n) _ m1
        exact ⟨this.2.1, this.2.2⟩
      · exact (pp.nodup_iff).mpr (sb.nodup (prsTo_nodup n n (Nat.le_refl n)))
      · have h1 := sb.length_le
        have h2 := l10 n (List.mem_range.mpr (by omega))
        rw [List.length_map] at h1
        rw [ptr.length_eq]
        omega
      · exact List.mem_range.mp (pms.mem_iff.mp (ks.subset hx))
      · exact ks.nodup (pms.nodup_iff.mpr List.nodup_range)
end
end Kz
end
section
set_option Elab.async false
set_option linter.all false
set_option maxRecDepth 100000
set_option maxHeartbeats 4000000
/-! the law's draws, 4: rings -/
namespace Kz
open PySem PySem.Spec PyProof.Rows L2 KzM
/-- two numbers in their order -/
theorem sort_two {a b : Nat} (ne : a ≠ b) {xs : List Int} (p : xs.Perm [(a : Int), (b : Int)]) (r : xs.Pairwise (· ≤ ·)) : ∃ x y : Nat, xs = [(x : Int), (y : Int)] ∧ x < y ∧ ((x = a ∧ y = b) ∨ (x = b ∧ y = a)) := by
  have l := p.length_eq
  match xs, l with
  | [u, v], _ =>
    have le : u ≤ v := (List.pairwise_cons.mp r).1 v List.mem_cons_self
    have hu : u ∈ [(a : Int), (b : Int)] := p.mem_iff.mp List.mem_cons_self
    have hv : v ∈ [(a : Int), (b : Int)] := p.mem_iff.mp (List.mem_cons_of_mem _ List.mem_cons_self)
    have ha : (a : Int) ∈ [u, v] := p.mem_iff.mpr List.mem_cons_self
    have hb : (b : Int) ∈ [u, v] := p.mem_iff.mpr (List.mem_cons_of_mem _ List.mem_cons_self)
    simp only [List.mem_cons, List.not_mem_nil, or_false] at hu hv ha hb
    rcases hu with e1 | e1 <;> rcases hv with e2 | e2
    · omega
    · exact ⟨a, b, by rw [e1, e2], by omega, .inl ⟨rfl, rfl⟩⟩
    · exact ⟨b, a, by rw [e1, e2], by omega, .inr ⟨rfl, rfl⟩⟩
    · omega
/-- the pairs of a ring are unlike -/
theorem ring_nodup {ms : List Nat} (nd : ms.Nodup) (l : ms.length = 5) {trs : List Trip} (lt : trs.length = 5)
    (h : ∀ k x, trs[k]? = some x → ∃ a b, ms[k]? = some a ∧ ms[(k + 1) % 5]? = some b ∧ ((x.1 = a ∧ x.2.1 = b) ∨ (x.1 = b ∧ x.2.1 = a))) : (trs.map fun x => (x.1, x.2.1)).Nodup := by
  rw [List.nodup_iff_pairwise_ne, List.pairwise_iff_getElem]
  intro i j hi hj hij e
  rw [List.getElem_map, List.getElem_map] at e
  rw [List.length_map] at hi hj
  obtain ⟨a, b, h1, h2, h3⟩ := h i _ (List.getElem?_eq_getElem hi)
  obtain ⟨c, d, g1, g2, g3⟩ := h j _ (List.getElem?_eq_getElem hj)
  have e1 := (Prod.mk.inj e).1
  have e2 := (Prod.mk.inj e).2
  have same : (a = c ∧ b = d) ∨ (a = d ∧ b = c) := by omega
  rcases same with ⟨q, _⟩ | ⟨q1, q2⟩
  · rw [q] at h1
    have := nodup_at nd h1 g1
    omega
  · rw [q1] at h1
    rw [q2] at h2
    have z1 := nodup_at nd h1 g2
    have z2 := nodup_at nd h2 g1
    omega
section
variable {P : Program} {w : World} {K : PySem.W.Frag} {mg : Str → Option Value} {base : Heap}
abbrev N_ring : List Str := ["_law_draw", "_law_field_here", "_law_turn", "_law_found", "_law_k", "_law_pair_here"]
theorem sc_ring : FnScope N_ring ["_law_draw", "_law_field_here"] (defScope sl_ring) := ⟨rfl, rfl, rfl, by decide +kernel, rfl, by decide +kernel, by decide +kernel⟩
theorem f_law_ring (D : DefAt K mg "_law_ring" sl_ring) (T : Txt K mg) (f_take : FnS P w K mg base CX0 2 "_law_take" ["_law_draw", "_law_amount"] spTake)
    (f_shuffled : FnS P w K mg base CX0 3 "_law_shuffled" ["_law_draw", "_law_some"] (spShuffled K)) : FnS P w K mg base CX0 4 "_law_ring" ["_law_draw", "_law_field_here"] (spRing K) :=
  mkFn D sc_ring (fun _ _ _ _ _ _ us hl => match us, hl with | [_, _], _ => rfl) (fun vs H Q E ⟨_, _, _, _, e, _⟩ => by rw [e]; rfl) fun cdv A outer s H vs Q E hr ⟨d, la, ca, p, e, hd, hp, q⟩ => by
  subst e
  have big : 10000 < sizeLine := by decide
  have hp2 := fields_pos hp
  refine ⟨_, (pss_cons (ps_par (i := 2) (j := 3) rfl sc_ring.nd rfl rfl (by decide) rfl rfl (pa_cons (pe_call f_shuffled.ok (hr.mono (by decide)) rfl f_shuffled.g f_shuffled.kp f_shuffled.b .nil pass0 (pa_cons (pv 0) (pa_cons (pe_listRg rfl rfl T.list_ (prg_1 rfl T.range_ pe_int)) pa_nil))) (pa_cons (pe_lst pa_nil) pa_nil)) (by rfl))
      (pss_cons (ps_for (passes_of rfl) rfl (pi_range1 rfl T.range_ (pa_cons pe_int pa_nil)) (pg_name (i := 4) sc_ring.nd rfl (.inl rfl)) (pss_cons (ps_set (i := 5) sc_ring.nd rfl (.inl rfl) (pe_callB cr_sorted (by rfl) T.sorted_ bo_sorted (pa_cons (pe_lst (pa_cons (pe_ix ix_list (pv 2) (pv 4) (fun _ _ => rfl)) (pa_cons (pe_ix ix_list (pv 2) (pe_op op_mod (pe_op op_add (pv 4) pe_int) pe_int) (fun _ _ => rfl)) pa_nil))) pa_nil)))
      (pss_one (ps_expr (pe_bm PySem.F.plainAttrs_list PySem.F.slot_list_append PySem.F.type_list_append mt_append (pv 3) (pa_cons (pe_tup (pa_cons (pe_ix ix_list (pv 5) pe_int (fun _ _ => rfl)) (pa_cons (pe_ix ix_list (pv 5) pe_int (fun _ _ => rfl)) (pa_cons (pe_op op_add pe_int (pe_call f_take.ok (hr.mono (by decide)) rfl f_take.g f_take.kp f_take.b .nil pass0 (pa_cons (pv 0) (pa_cons (pe_op op_sub (pv 1) pe_int) pa_nil)))) pa_nil)))) pa_nil))))))
      (pss_one (ps_ret (pv 3))))), ?_⟩
  refine seq1 ⟨_, rfl, _, rfl, ⟨by decide, by decide, by decide, by decide, by decide⟩, fun r hr0 => ?_⟩
  have nr := hd.new hr0
  have s1 : Same H (upd H r (.lst (rgV 0 5))) := Same.new hr0
  refine ⟨d, la, ca, r, natV (List.range 5), rfl, hd.mono s1, SqL.of (out_of upd_same nr.1 nr.2.1), by decide, dv_nats, fun H2 g ys d2 hg eg g1 g2 pm => ⟨Nat.zero_le _, fun f hf => ⟨_, _, rfl, ?_⟩⟩⟩
  obtain ⟨ms, pms, rfl⟩ := nats_of pm
  have ml : ms.length = 5 := by rw [pms.length_eq]; rfl
  have mnd : ms.Nodup := pms.nodup_iff.mpr List.nodup_range
  have nf := d2.2.new hf
  have ngf : g ≠ f := ne_of_none eg hf
  have d02 : Drn d la ca H H2 := (Drn.of hd s1).trans d2
  have s3 : Same H2 (upd H2 f (.lst [])) := Same.new hf
  have eg3 : Out2 d la f (upd H2 f (.lst [])) g = some (.lst (natV ms)) := out2_of (s3 _ _ eg) g1 g2 ngf
  refine seq1 ⟨5, rfl, by decide, by decide, ?_⟩
  refine for_walk (wk_range (n := 5)) (fun i σ H' => ∃ (x4 x5 : Option V) (ts : List Addr) (trs : List Trip), σ = [some (.ref d), some (.int p), some (.ref g), some (.ref f), x4, x5] ∧ Drw H' d la ca ∧ Same (Out2 d la f (upd H2 f (.lst []))) (Out2 d la f H') ∧ H' f = some (.lst (ts.map V.ref)) ∧ Paired (fun t x => LineX K (Out2 d la f H') t x) ts trs ∧ trs.length = i ∧
      ∀ k x, trs[k]? = some x → x.1 < x.2.1 ∧ ∃ a b, ms[k]? = some a ∧ ms[(k + 1) % 5]? = some b ∧ ((x.1 = a ∧ x.2.1 = b) ∨ (x.1 = b ∧ x.2.1 = a)))
    ⟨_, _, [], [], rfl, d2.2.mono s3, Same.refl _, upd_same, .nil, rfl, fun k x h => by simp at h⟩ (fun _ _ _ _ _ => True.intro) (fun i x σ H4 H5 hi ⟨x4, x5, ts, trs, eσ, dw, so, e4, pr, lt, ht⟩ s5 it => ?_) fun σ H4 ⟨x4, x5, ts, trs, eσ, dw, so, e4, pr, lt, ht⟩ => ?_
  · subst eσ it
    rw [show (0 : Int) + (i : Int) = (i : Int) by omega]
    have so5 := so.trans (Same.out2 s5)
    have eg5 : H5 g = some (.lst (natV ms)) := out2_in _ _ (so5 _ _ eg3)
    obtain ⟨a, ea⟩ : ∃ a, ms[i]? = some a := ⟨_, List.getElem?_eq_getElem (by omega)⟩
    obtain ⟨b, eb⟩ : ∃ b, ms[(i + 1) % 5]? = some b := ⟨_, List.getElem?_eq_getElem (by omega)⟩
    have ne : a ≠ b := fun q => by
      rw [q] at ea
      have := nodup_at mnd ea eb
      omega
    have va : (natV ms)[i]? = some (.int (a : Nat)) := by rw [List.getElem?_map, ea]; rfl
    have vb : (natV ms)[(i + 1) % 5]? = some (.int (b : Nat)) := by rw [List.getElem?_map, eb]; rfl
    refine seq1 (asg1 ⟨_, rfl, _, rfl, g, _, i, _, rfl, rfl, SqL.of eg5, atI_nat va, _, rfl, _, rfl, _, _, rfl, rfl, _, _, rfl, rfl, (show (0 : Int) < 5 by decide), g, _, (((i + 1) % 5 : Nat) : Int), _, rfl, ?_, SqL.of eg5, atI_nat vb, (by show 2 ≤ sizeLine; decide), fun l hl => ⟨l, [(a : Int), (b : Int)], rfl, SqL.of upd_same, by show 2 < 64; decide, fun ns' pq pm' rs hpq => ?_⟩⟩)
    · show V.int (((i : Int) + 1) % 5) = _
      rw [Int.natCast_emod]
      rfl
    obtain ⟨x, y, rfl, xy, ho⟩ := sort_two ne pm' rs
    have s6 : Same H5 (upd (upd H5 l (.lst [.int (a : Nat), .int (b : Nat)])) pq (.lst ([(x : Int), (y : Int)].map V.int))) := (Same.new hl).trans (Same.new hpq)
    have f6 := s6 _ _ (s5 _ _ e4)
    have q6 : (upd (upd H5 l (.lst [.int (a : Nat), .int (b : Nat)])) pq (.lst ([(x : Int), (y : Int)].map V.int))) pq = some (.lst [.int (x : Nat), .int (y : Nat)]) := upd_same
    dsimp only
    refine ⟨_, rfl, .inl ⟨rfl, _, SqL.of f6⟩, _, rfl, pq, _, (0 : Nat), _, rfl, rfl, SqL.of q6, atI_nat (j := 0) rfl, _, rfl, pq, _, (1 : Nat), _, rfl, rfl, SqL.of q6, atI_nat (j := 1) rfl, _, rfl, _, rfl, _, _, rfl, rfl, d, la, ca, (p - 1).toNat, ?_, (dw.mono s5).mono s6, by omega, by omega, fun H7 v d7 hv => ⟨_, _, rfl, rfl, (by show 3 ≤ sizeLine; decide), fun t ht' => ?_⟩⟩
    · show [V.ref d, V.int (p - 1)] = _
      rw [Int.toNat_of_nonneg (by omega)]
    have f7 := d7.keep f6 nf.1 nf.2.1
    have nt := d7.2.new ht'
    have ntf : t ≠ f := ne_of_none' f7 ht'
    have s8 : Same H7 (upd H7 t (.tup [.int (x : Nat), .int (y : Nat), .int (1 + (v : Int))])) := Same.new ht'
    have so8 : Same (Out2 d la f H4) (Out2 d la f (upd H7 t (.tup [.int (x : Nat), .int (y : Nat), .int (1 + (v : Int))]))) := (Same.out2 (s5.trans s6)).trans (d7.out2.trans (Same.out2 s8))
    have tsl : ts.length ≤ 5 := by rw [paired_len pr]; omega
    refine ⟨f, _, _, rfl, rfl, s8 _ _ f7, by rw [List.length_map]; omega, _, _, ts ++ [t], trs ++ [(x, y, 1 + (v : Int))], rfl, (d7.2.mono s8).upd nf.1 nf.2.1 nf.2.2, ?_, by rw [upd_same, List.map_append]; rfl, ?_, by rw [List.length_append, lt]; rfl, fun k z hk => ?_⟩
    · refine (so.trans so8).trans ?_
      rw [out2_upd]
      exact Same.refl _
    · rw [out2_upd]
      exact paired_app (paired_imp pr fun _ _ z => so8.seqX z) (.inr (SqT.of (out2_of upd_same nt.1 nt.2.1 ntf)))
    · by_cases c : k < trs.length
      · rw [List.getElem?_append_left c] at hk
        exact ht k z hk
      · rw [List.getElem?_append_right (by omega)] at hk
        have e0 : k = i := by
          refine Decidable.byContradiction fun ne => ?_
          rw [List.getElem?_eq_none (by show 1 ≤ _; omega)] at hk
          cases hk
        subst e0
        rw [lt, Nat.sub_self] at hk
        have hk : (x, y, 1 + (v : Int)) = z := Option.some.inj hk
        subst hk
        exact ⟨xy, a, b, ea, eb, ho⟩
  · subst eσ
    dsimp only
    have so4 : Same (Out d la H) (Out d la H4) := fun b o hb => by
      have h1 : Out d la H2 b = some o := d02.1 _ _ hb
      have nb : b ≠ f := ne_of_none (out_in _ _ h1) hf
      exact out2_one _ _ (so _ _ (out_of (Same.out s3 _ _ h1) nb nb))
    refine ret1 ⟨_, rfl, q _ f trs ⟨so4, dw⟩ ⟨ts, SqL.of (out_of e4 nf.1 nf.2.1), paired_imp pr fun _ _ z => out2_one.seqX z⟩ ?_⟩
    have ms5 : ∀ x ∈ ms, x < 5 := fun x hx => List.mem_range.mp (pms.mem_iff.mp hx)
    refine ⟨by decide, by decide, fun x hx => ?_, ring_nodup mnd ml lt fun k x h => (ht k x h).2, by omega, fun x hx => (by cases hx), List.nodup_nil⟩
    obtain ⟨k, hk⟩ := List.getElem?_of_mem hx
    obtain ⟨h1, a, b, h2, h3, h4⟩ := ht k x hk
    have := ms5 a (List.mem_of_getElem? h2)
    have := ms5 b (List.mem_of_getElem? h3)
    omega
end
end Kz
end
section
set_option Elab.async false
set_option linter.all false
set_option maxRecDepth 100000
set_option maxHeartbeats 4000000
/-! the law's draws, 5: letters, lines, nothings -/
namespace Kz
open PySem PySem.Spec PyProof.Rows L2 KzM
def spWebLetters (K : PySem.W.Frag) : Sp := fun vs H Q _ => ∃ (d la ca : Addr) (p : Int), vs = [.ref d, .int p] ∧ Drw H d la ca ∧ p ∈ fieldsL ∧
  ∀ H' t n a o trs ns, Drn d la ca H H' → SqT K (Out d la H') t [.int (n : Nat), .ref a, .ref o] → LinesL K (Out d la H') a trs → SqL K (Out d la H') o (natV ns) → WebOk n trs ns → Q (.ref t) H'
section
variable {P : Program} {w : World} {K : PySem.W.Frag} {mg : Str → Option Value} {base : Heap}
abbrev N_web_letters : List Str := ["_law_draw", "_law_field_here", "_law_letters", "_law_lines_here", "_law_nothings_here"]
theorem sc_web_letters : FnScope N_web_letters ["_law_draw", "_law_field_here"] (defScope sl_web_letters) := ⟨rfl, rfl, rfl, by decide +kernel, rfl, by decide +kernel, by decide +kernel⟩
theorem f_law_web_letters (D : DefAt K mg "_law_web_letters" sl_web_letters) (T : Txt K mg) (f_take : FnS P w K mg base CX0 2 "_law_take" ["_law_draw", "_law_amount"] spTake) (f_pick : FnS P w K mg base CX0 3 "_law_pick" ["_law_draw", "_law_some"] (spPick K))
    (f_drawn_web : FnS P w K mg base CX0 4 "_law_drawn_web" ["_law_draw", "_law_field_here", "_law_letters"] (spDrawnWeb K)) (f_ring : FnS P w K mg base CX0 4 "_law_ring" ["_law_draw", "_law_field_here"] (spRing K)) : FnS P w K mg base CX0 5 "_law_web_letters" ["_law_draw", "_law_field_here"] (spWebLetters K) :=
  mkFn D sc_web_letters (fun _ _ _ _ _ _ us hl => match us, hl with | [_, _], _ => rfl) (fun vs H Q E ⟨_, _, _, _, e, _⟩ => by rw [e]; rfl) fun cdv A outer s H vs Q E hr ⟨d, la, ca, p, e, hd, hp, q⟩ => by
  subst e
  refine ⟨_, (pss_cons (ps_set (i := 2) sc_web_letters.nd rfl (.inl rfl) (pe_call f_pick.ok (hr.mono (by decide)) rfl f_pick.g f_pick.kp f_pick.b .nil pass0 (pa_cons (pv 0) (pa_cons (pe_lst (pa_cons pe_int (pa_cons pe_int (pa_cons pe_int (pa_cons pe_int (pa_cons pe_int (pa_cons pe_int (pa_cons pe_int (pa_cons pe_int pa_nil))))))))) pa_nil))))
      (pss_cons (ps_asg (pe_call f_drawn_web.ok (hr.mono (by decide)) rfl f_drawn_web.g f_drawn_web.kp f_drawn_web.b .nil pass0 (pa_cons (pv 0) (pa_cons (pv 1) (pa_cons (pv 2) pa_nil)))) (pg_tup rfl (pgs_cons (pg_name (i := 3) sc_web_letters.nd rfl (.inl rfl)) (pgs_cons (pg_name (i := 4) sc_web_letters.nd rfl (.inl rfl)) pgs_nil))))
      (pss_cons (ps_if (PW.pt (pw_and (pt_cmpR op_eq (pv 2) pe_int (nomark _)) (pw_and1 (pt_cmpR op_eq (pe_call f_take.ok (hr.mono (by decide)) rfl f_take.g f_take.kp f_take.b .nil pass0 (pa_cons (pv 0) (pa_cons pe_int pa_nil))) pe_int (nomark _))))) (pss_one (ps_ret (pe_tup (pa_cons pe_int (pa_cons (pe_call f_ring.ok (hr.mono (by decide)) rfl f_ring.g f_ring.kp f_ring.b .nil pass0 (pa_cons (pv 0) (pa_cons (pv 1) pa_nil))) (pa_cons (pv 4) pa_nil)))))) pss_nil)
      (pss_one (ps_ret (pe_tup (pa_cons (pv 2) (pa_cons (pv 3) (pa_cons (pv 4) pa_nil))))))))), ?_⟩
  refine seq1 (asg1 ⟨_, rfl, (by show 8 ≤ sizeLine; decide), fun l hl => ?_⟩)
  have nl := hd.new hl
  refine ⟨d, la, ca, l, [1, 2, 3, 3, 4, 4, 5, 5].map V.int, rfl, hd.mono (Same.new hl), SqL.of (out_of upd_same nl.1 nl.2.1), by decide, by decide, fun H1 v d1 hv => ?_⟩
  obtain ⟨n, n1, n5, rfl⟩ : ∃ n : Nat, 1 ≤ n ∧ n ≤ 5 ∧ v = .int (n : Nat) := by
    obtain ⟨m, hm, rfl⟩ := List.mem_map.mp hv
    have : ∀ m ∈ ([1, 2, 3, 3, 4, 4, 5, 5] : List Int), 1 ≤ m ∧ m ≤ 5 := by decide
    have := this m hm
    exact ⟨m.toNat, by omega, by omega, by rw [Int.toNat_of_nonneg (by omega)]⟩
  have d01 : Drn d la ca H H1 := (Drn.of hd (Same.new hl)).trans d1
  dsimp only
  refine seq1 (asg1 ⟨_, rfl, _, rfl, _, rfl, d, la, ca, p, n, rfl, d1.2, hp, n1, n5, fun H2 t a o trs ns d2 ht hlines hns W => ⟨t, _, rfl, out_in.seqT ht, rfl, _, _, rfl, _, _, rfl, rfl, ?_⟩⟩)
  have d02 := d01.trans d2
  dsimp only
  refine seq_join (fun σ H' => σ = [some (.ref d), some (.int p), some (.int (n : Nat)), some (.ref a), some (.ref o)] ∧ Drn d la ca H2 H') (fun σ H3 ⟨eσ, d3⟩ => ?_) fun nx hnx => ?_
  · subst eσ
    refine ret1 ⟨_, rfl, _, rfl, _, rfl, (by show 3 ≤ sizeLine; decide), fun t2 ht2 => ?_⟩
    have n2 := d3.2.new ht2
    have d4 := d3.same (Same.new (o := .tup [.int (n : Nat), .ref a, .ref o]) ht2)
    exact q _ t2 n a o trs ns (d02.trans d4) (SqT.of (out_of upd_same n2.1 n2.2.1)) (hlines.mono d4.1) (d4.1.seq hns) W
  · refine if1 ⟨_, rfl, rfl, _, rfl, ?_⟩
    by_cases c : decide (V.int (n : Nat) = V.int 5) = true
    · rw [c]
      have n5' : n = 5 := by
        have := V.int.inj (of_decide_eq_true c)
        omega
      subst n5'
      refine ⟨_, rfl, d, la, ca, 2, rfl, d2.2, by decide, by decide, fun H3 v d3 hv => ⟨rfl, _, rfl, ?_⟩⟩
      by_cases c2 : decide (V.int (v : Nat) = V.int 0) = true
      · rw [c2]
        refine iteT' rfl (ret1 ⟨_, rfl, _, rfl, d, la, ca, p, rfl, d3.2, hp, fun H4 a4 trs4 d4 hl4 W4 => ⟨_, rfl, (by show 3 ≤ sizeLine; decide), fun t2 ht2 => ?_⟩⟩)
        have n2 := d4.2.new ht2
        have d5 := d4.same (Same.new (o := .tup [.int 5, .ref a4, .ref o]) ht2)
        have s45 : Same H4 (upd H4 t2 (.tup [.int 5, .ref a4, .ref o])) := Same.new ht2
        exact q _ t2 5 a4 o trs4 ns (d02.trans (d3.trans d5)) (SqT.of (out_of upd_same n2.1 n2.2.1)) (hl4.mono (Same.out s45)) ((d3.trans d5).1.seq hns) ⟨by decide, by decide, W4.lt, W4.nd, W4.few, W.no, W.ndn⟩
      · rw [Bool.eq_false_iff.mpr c2]
        exact hnx _ _ ⟨rfl, d3⟩
    · rw [Bool.eq_false_iff.mpr c]
      exact hnx _ _ ⟨rfl, .refl d2.2⟩
end
end Kz
end
section
set_option linter.all false
/-! the mathematics, 3: words whose letters may be exchanged; which words are normal -/
namespace KzM
/-- is there a letter y in w, all letters ahead of it exchanged with it, that goes ahead of x or kills it -/
def hit (J Z : Nat → Nat → Bool) (x : Nat) : List Nat → List Nat → Bool
  | _, [] => false
  | b, y :: r => (b.all (fun c => J c y) && ((J x y && decide (x < y)) || Z x y)) || hit J Z x (y :: b) r
def norm (J Z : Nat → Nat → Bool) : List Nat → Bool
  | [] => true
  | x :: w => !hit J Z x [] w && norm J Z w
theorem hit_of {J Z : Nat → Nat → Bool} {x : Nat} : ∀ {d b : List Nat} {y : Nat} {e : List Nat}, (∀ c ∈ b, J c y = true) → (∀ c ∈ d, J c y = true) → ((J x y = true ∧ x < y) ∨ Z x y = true) → hit J Z x b (d ++ y :: e) = true
  | [], b, y, e, hb, _, h => by
    show ((b.all (fun c => J c y) && ((J x y && decide (x < y)) || Z x y)) || hit J Z x (y :: b) e) = true
    have h1 : b.all (fun c => J c y) = true := List.all_eq_true.mpr hb
    have h2 : ((J x y && decide (x < y)) || Z x y) = true := by
      rcases h with ⟨h1, h2⟩ | h
      · rw [h1, decide_eq_true h2]; rfl
      · rw [h, Bool.or_true]
    rw [h1, h2]; rfl
  | z :: d, b, y, e, hb, hd, h => by
    show ((b.all (fun c => J c z) && ((J x z && decide (x < z)) || Z x z)) || hit J Z x (z :: b) (d ++ y :: e)) = true
    rw [hit_of (d := d) (fun c hc => by
      rcases List.mem_cons.mp hc with q | q
      · rw [q]; exact hd z List.mem_cons_self
      · exact hb c q) (fun c hc => hd c (List.mem_cons_of_mem _ hc)) h, Bool.or_true]
theorem hit_is {J Z : Nat → Nat → Bool} {x : Nat} : ∀ {w b : List Nat}, hit J Z x b w = true → ∃ d y e, w = d ++ y :: e ∧ (∀ c ∈ b, J c y = true) ∧ (∀ c ∈ d, J c y = true) ∧ ((J x y = true ∧ x < y) ∨ Z x y = true)
  | [], b, h => by cases h
  | y :: r, b, h => by
    have h : ((b.all (fun c => J c y) && ((J x y && decide (x < y)) || Z x y)) || hit J Z x (y :: b) r) = true := h
    rcases Bool.or_eq_true _ _ |>.mp h with h | h
    · obtain ⟨h1, h2⟩ := Bool.and_eq_true _ _ |>.mp h
      refine ⟨[], y, r, rfl, List.all_eq_true.mp h1, by simp, ?_⟩
      rcases Bool.or_eq_true _ _ |>.mp h2 with h | h
      · obtain ⟨h3, h4⟩ := Bool.and_eq_true _ _ |>.mp h
        exact .inl ⟨h3, of_decide_eq_true h4⟩
      · exact .inr h
    · obtain ⟨d, z, e, e1, h1, h2, h3⟩ := hit_is h
      refine ⟨y :: d, z, e, by rw [e1]; rfl, fun c hc => h1 c (List.mem_cons_of_mem _ hc), fun c hc => ?_, h3⟩
      rcases List.mem_cons.mp hc with q | q
      · rw [q]; exact h1 y List.mem_cons_self
      · exact h2 c q
theorem norm_cons {J Z : Nat → Nat → Bool} {x : Nat} {w : List Nat} (h : norm J Z (x :: w) = true) : hit J Z x [] w = false ∧ norm J Z w = true := by
  have h : (!hit J Z x [] w && norm J Z w) = true := h
  obtain ⟨h1, h2⟩ := Bool.and_eq_true _ _ |>.mp h
  exact ⟨by simpa using h1, h2⟩
/-- no letter of w that may stand first goes ahead of x or kills it -/
theorem norm_no {J Z : Nat → Nat → Bool} {x y : Nat} {d e : List Nat} (h : norm J Z (x :: (d ++ y :: e)) = true) (hd : ∀ c ∈ d, J c y = true) (h2 : (J x y = true ∧ x < y) ∨ Z x y = true) : False := by
  have := hit_of (b := []) (e := e) (by simp) hd h2
  rw [(norm_cons h).1] at this
  cases this
/-- the letters: which are exchanged, which kill one another, and by what numbers -/
structure Sys (p : Int) (J Z : Nat → Nat → Bool) (k : Nat → Nat → Int) : Prop where
  sym : ∀ a b, J a b = true → J b a = true
  irr : ∀ a, J a a = false
  zj : ∀ a b, Z a b = true → J a b = false
  push : ∀ a b c, Z a b = true → J c a = true → J c b = true ∨ Z c b = true
  inv : ∀ a b, J a b = true → p ∣ k a b * k b a - 1
/-- f tells of words as the rules ask -/
def Swaps (p : Int) (J : Nat → Nat → Bool) (k : Nat → Nat → Int) (f : List Nat → Int) : Prop := ∀ (α γ : List Nat) a b, J a b = true → p ∣ f (α ++ b :: a :: γ) - k a b * f (α ++ a :: b :: γ)
def tk (J : Nat → Nat → Bool) (k : Nat → Nat → Int) (x : Nat) : (List Nat → Int) → List Nat → Int
  | _, [] => 0
  | f, y :: v => if y = x then f v else if J x y = true then k x y * tk J k x (fun r => f (y :: r)) v else 0
def us (J : Nat → Nat → Bool) (k : Nat → Nat → Int) : List Nat → List Nat → Int
  | [], v => if v = [] then 1 else 0
  | x :: w, v => tk J k x (us J k w) v
section
variable {p : Int} {J Z : Nat → Nat → Bool} {k : Nat → Nat → Int}
theorem tk_congr {x : Nat} : ∀ {v : List Nat} {f g : List Nat → Int} {c : Int}, (∀ r, p ∣ f r - c * g r) → p ∣ tk J k x f v - c * tk J k x g v
  | [], f, g, c, _ => ⟨0, by show (0 : Int) - c * 0 = p * 0; rw [Int.mul_zero, Int.mul_zero]; rfl⟩
  | y :: v, f, g, c, h => by
    unfold tk
    by_cases e : y = x
    · rw [if_pos e, if_pos e]; exact h v
    · rw [if_neg e, if_neg e]
      by_cases j : J x y = true
      · rw [if_pos j, if_pos j]
        have := tk_congr (x := x) (v := v) (f := fun r => f (y :: r)) (g := fun r => g (y :: r)) (c := c) fun r => h (y :: r)
        have h2 := Int.dvd_mul_of_dvd_right (b := k x y) this
        rw [Int.mul_sub, Int.mul_left_comm] at h2
        exact h2
      · rw [if_neg j, if_neg j]
        exact ⟨0, by rw [Int.mul_zero, Int.mul_zero]; rfl⟩
theorem swaps_cons {f : List Nat → Int} (h : Swaps p J k f) (y : Nat) : Swaps p J k fun r => f (y :: r) := fun α γ a b j => h (y :: α) γ a b j
theorem swaps_tk (S : Sys p J Z k) {x : Nat} : ∀ {α : List Nat} {f : List Nat → Int}, Swaps p J k f → ∀ (γ : List Nat) a b, J a b = true → p ∣ tk J k x f (α ++ b :: a :: γ) - k a b * tk J k x f (α ++ a :: b :: γ)
  | [], f, h, γ, a, b, j => by
    have ne : a ≠ b := fun e => by
      rw [e, S.irr] at j
      cases j
    show p ∣ tk J k x f (b :: a :: γ) - k a b * tk J k x f (a :: b :: γ)
    unfold tk
    by_cases eb : b = x
    · have ea : a ≠ x := fun e => ne (by rw [e, eb])
      rw [if_pos eb, if_neg ea]
      rw [eb] at j ⊢
      rw [if_pos (S.sym _ _ j)]
      unfold tk
      rw [if_pos rfl]
      obtain ⟨c, hc⟩ := S.inv a x j
      refine ⟨-c * f (a :: γ), ?_⟩
      rw [← Int.mul_assoc]
      have : k a x * k x a = p * c + 1 := by omega
      rw [this, Int.add_mul, Int.one_mul, Int.neg_mul, Int.mul_neg, Int.mul_assoc]
      show f (a :: γ) - (p * (c * f (a :: γ)) + f (a :: γ)) = -(p * (c * f (a :: γ)))
      omega
    · rw [if_neg eb]
      by_cases ea : a = x
      · rw [if_pos ea]
        rw [ea] at j ⊢
        rw [if_pos j]
        unfold tk
        rw [if_pos rfl]
        exact ⟨0, by rw [Int.mul_zero]; exact Int.sub_self _⟩
      · rw [if_neg ea]
        unfold tk
        rw [if_neg ea, if_neg eb]
        by_cases jb : J x b = true
        · by_cases ja : J x a = true
          · rw [if_pos jb, if_pos ja, if_pos ja, if_pos jb]
            have := tk_congr (J := J) (k := k) (x := x) (v := γ) (f := fun r => f (b :: a :: r)) (g := fun r => f (a :: b :: r)) (c := k a b) fun r => h [] r a b j
            have h2 := Int.dvd_mul_of_dvd_right (b := k x b * k x a) this
            have e : k x b * (k x a * tk J k x (fun r => f (b :: a :: r)) γ) - k a b * (k x a * (k x b * tk J k x (fun r => f (a :: b :: r)) γ)) = k x b * k x a * (tk J k x (fun r => f (b :: a :: r)) γ - k a b * tk J k x (fun r => f (a :: b :: r)) γ) := by
              rw [Int.mul_sub]
              congr 1
              · rw [Int.mul_assoc]
              · rw [Int.mul_left_comm (k a b), Int.mul_left_comm (k a b), ← Int.mul_assoc, Int.mul_comm (k x a)]
            rw [e]
            exact h2
          · rw [if_pos jb, if_neg ja, if_neg ja]
            exact ⟨0, by simp⟩
        · rw [if_neg jb, if_neg jb]
          by_cases ja : J x a = true
          · rw [if_pos ja]; exact ⟨0, by simp⟩
          · rw [if_neg ja]; exact ⟨0, by simp⟩
  | y :: α, f, h, γ, a, b, j => by
    show p ∣ tk J k x f (y :: (α ++ b :: a :: γ)) - k a b * tk J k x f (y :: (α ++ a :: b :: γ))
    unfold tk
    by_cases e : y = x
    · rw [if_pos e, if_pos e]; exact h α γ a b j
    · rw [if_neg e, if_neg e]
      by_cases jy : J x y = true
      · rw [if_pos jy, if_pos jy]
        have := Int.dvd_mul_of_dvd_right (b := k x y) (swaps_tk S (x := x) (α := α) (swaps_cons h y) γ a b j)
        rw [Int.mul_sub, Int.mul_left_comm] at this
        exact this
      · rw [if_neg jy, if_neg jy]; exact ⟨0, by simp⟩
theorem swaps_us (S : Sys p J Z k) : ∀ w : List Nat, Swaps p J k (us J k w)
  | [] => fun α γ a b _ => by
    show p ∣ (if α ++ b :: a :: γ = [] then (1 : Int) else 0) - k a b * (if α ++ a :: b :: γ = [] then (1 : Int) else 0)
    rw [if_neg (by simp), if_neg (by simp)]
    exact ⟨0, by simp⟩
  | x :: w => fun α γ a b j => swaps_tk S (swaps_us S w) γ a b j
/-- where it tells something -/
theorem tk_at {x : Nat} : ∀ {v : List Nat} {f : List Nat → Int}, ¬ p ∣ tk J k x f v → ∃ β γ, v = β ++ x :: γ ∧ (∀ c ∈ β, J x c = true) ∧ ¬ p ∣ f (β ++ γ)
  | [], f, h => absurd ⟨0, by show (0 : Int) = p * 0; rw [Int.mul_zero]⟩ h
  | y :: v, f, h => by
    unfold tk at h
    by_cases e : y = x
    · rw [if_pos e] at h
      exact ⟨[], v, by rw [e]; rfl, by simp, h⟩
    · rw [if_neg e] at h
      by_cases j : J x y = true
      · rw [if_pos j] at h
        obtain ⟨β, γ, e1, h1, h2⟩ := tk_at (v := v) (f := fun r => f (y :: r)) fun d => h (Int.dvd_mul_of_dvd_right d)
        refine ⟨y :: β, γ, by rw [e1]; rfl, fun c hc => ?_, h2⟩
        rcases List.mem_cons.mp hc with q | q
        · rw [q]; exact j
        · exact h1 c q
      · rw [if_neg j] at h
        exact absurd ⟨0, by simp⟩ h
theorem us_front (S : Sys p J Z k) : ∀ {w : List Nat} {y : Nat} {v : List Nat}, ¬ p ∣ us J k w (y :: v) → ∃ d e, w = d ++ y :: e ∧ ∀ c ∈ d, J c y = true
  | [], y, v, h => absurd ⟨0, by show (if y :: v = [] then (1 : Int) else 0) = p * 0; rw [if_neg (by simp), Int.mul_zero]⟩ h
  | x :: w, y, v, h => by
    obtain ⟨β, γ, e1, h1, h2⟩ := tk_at (f := us J k w) h
    cases β with
    | nil =>
      obtain ⟨rfl, rfl⟩ := List.cons.inj e1
      exact ⟨[], w, rfl, by simp⟩
    | cons z β =>
      obtain ⟨rfl, rfl⟩ := List.cons.inj e1
      obtain ⟨d, e, e2, h3⟩ := us_front S h2
      refine ⟨x :: d, e, by rw [e2]; rfl, fun c hc => ?_⟩
      rcases List.mem_cons.mp hc with q | q
      · rw [q]; exact h1 y List.mem_cons_self
      · exact h3 c q
theorem split_at {α : Type} : ∀ {β γ α' γ' : List α} {x a b : α}, α' ++ a :: b :: γ' = β ++ x :: γ → (∃ δ, α' = β ++ x :: δ ∧ γ = δ ++ a :: b :: γ') ∨ (α' = β ∧ x = a ∧ γ = b :: γ') ∨ (β = α' ++ [a] ∧ x = b ∧ γ = γ') ∨ ∃ δ, β = α' ++ a :: b :: δ ∧ γ' = δ ++ x :: γ
  | [], γ, [], γ', x, a, b, h => by
    obtain ⟨rfl, rfl⟩ := List.cons.inj h
    exact .inr (.inl ⟨rfl, rfl, rfl⟩)
  | [], γ, z :: α', γ', x, a, b, h => by
    obtain ⟨rfl, rfl⟩ := List.cons.inj h
    exact .inl ⟨α', rfl, rfl⟩
  | z :: β, γ, y :: α', γ', x, a, b, h => by
    obtain ⟨rfl, h2⟩ := List.cons.inj h
    rcases split_at (β := β) (α' := α') h2 with ⟨δ, e1, e2⟩ | ⟨e1, e2, e3⟩ | ⟨e1, e2, e3⟩ | ⟨δ, e1, e2⟩
    · exact .inl ⟨δ, by rw [e1]; rfl, e2⟩
    · exact .inr (.inl ⟨by rw [e1], e2, e3⟩)
    · exact .inr (.inr (.inl ⟨by rw [e1]; rfl, e2, e3⟩))
    · exact .inr (.inr (.inr ⟨δ, by rw [e1]; rfl, e2⟩))
  | z :: β, γ, [], γ', x, a, b, h => by
    obtain ⟨rfl, h2⟩ := List.cons.inj h
    cases β with
    | nil =>
      obtain ⟨rfl, rfl⟩ := List.cons.inj h2
      exact .inr (.inr (.inl ⟨rfl, rfl, rfl⟩))
    | cons y β =>
      obtain ⟨rfl, rfl⟩ := List.cons.inj h2
      exact .inr (.inr (.inr ⟨β, rfl, rfl⟩))
theorem swap_nz (S : Sys p J Z k) {f : List Nat → Int} (h : Swaps p J k f) {α γ : List Nat} {a b : Nat} (j : J a b = true) (n : ¬ p ∣ f (α ++ b :: a :: γ)) : ¬ p ∣ f (α ++ a :: b :: γ) := fun d => n (by
  have h1 := h α γ a b j
  have h2 := Int.dvd_mul_of_dvd_right (b := k a b) d
  have := Int.dvd_add h1 h2
  rw [Int.sub_add_cancel] at this
  exact this)
/-- words killed are told 0 -/
theorem us_zero (S : Sys p J Z k) : ∀ {w : List Nat}, norm J Z w = true → ∀ (α γ : List Nat) a b, Z a b = true → p ∣ us J k w (α ++ a :: b :: γ)
  | [], _, α, γ, a, b, _ => ⟨0, by show (if α ++ a :: b :: γ = [] then (1 : Int) else 0) = p * 0; rw [if_neg (by simp), Int.mul_zero]⟩
  | x :: w, hn, α, γ, a, b, z => Decidable.byContradiction fun h => by
    obtain ⟨h0, hw⟩ := norm_cons hn
    obtain ⟨β, γ', e1, h1, h2⟩ := tk_at (f := us J k w) h
    rcases split_at e1 with ⟨δ, rfl, rfl⟩ | ⟨rfl, rfl, rfl⟩ | ⟨rfl, rfl, rfl⟩ | ⟨δ, rfl, rfl⟩
    · refine h2 ?_
      rw [← List.append_assoc]
      exact us_zero S hw (β ++ δ) γ a b z
    · -- x = a ahead of b
      have left : ∀ (m : Nat) (α' γ' : List Nat), α'.length = m → (∀ c ∈ α', J x c = true) → ¬ p ∣ us J k w (α' ++ b :: γ') → False := by
        intro m
        induction m with
        | zero =>
          intro α' γ' hm _ hz
          rw [List.eq_nil_of_length_eq_zero hm] at hz
          obtain ⟨d, e, ew, hd⟩ := us_front S hz
          rw [ew] at hn
          exact norm_no hn hd (.inr z)
        | succ m ih =>
          intro α' γ' hm hj hz
          have na : α' ≠ [] := fun q => by rw [q] at hm; cases hm
          obtain ⟨α2, c, rfl⟩ : ∃ α2 c, α' = α2 ++ [c] := ⟨_, _, (List.dropLast_concat_getLast na).symm⟩
          have jc : J c x = true := S.sym _ _ (hj c (by simp))
          rw [List.append_assoc] at hz
          rcases S.push x b c z jc with q | q
          · refine ih α2 (c :: γ') (by simpa using hm) (fun c' hc => hj c' (by simp [hc])) ?_
            exact swap_nz S (swaps_us S w) (S.sym _ _ q) hz
          · exact hz (us_zero S hw α2 γ' c b q)
      exact left _ _ _ rfl h1 h2
    · have := h1 a (by simp)
      have := S.sym _ _ this
      rw [S.zj _ _ z] at this
      cases this
    · refine h2 ?_
      rw [List.append_assoc]
      exact us_zero S hw α (δ ++ γ') a b z
theorem us_self : ∀ w : List Nat, us J k w w = 1
  | [] => rfl
  | x :: w => by
    show tk J k x (us J k w) (x :: w) = 1
    unfold tk
    rw [if_pos rfl]
    exact us_self w
/-! ### words as spots -/
def val (n : Nat) : List Nat → Nat
  | [] => 0
  | x :: w => x * n ^ w.length + val n w
theorem val_lt {n : Nat} : ∀ {w : List Nat}, (∀ c ∈ w, c < n) → val n w < n ^ w.length
  | [], _ => by show 0 < 1; decide
  | x :: w, h => by
    have h1 := val_lt (w := w) fun c hc => h c (List.mem_cons_of_mem _ hc)
    have h2 := h x List.mem_cons_self
    show x * n ^ w.length + val n w < n ^ (w.length + 1)
    have : (x + 1) * n ^ w.length ≤ n * n ^ w.length := Nat.mul_le_mul_right _ h2
    rw [Nat.add_mul, Nat.one_mul] at this
    rw [Nat.pow_succ, Nat.mul_comm (n ^ _)]
    omega
theorem us_top (S : Sys p J Z k) {n : Nat} : ∀ {w : List Nat}, norm J Z w = true → (∀ c ∈ w, c < n) → ∀ {v : List Nat}, (∀ c ∈ v, c < n) → v.length = w.length → val n w < val n v → p ∣ us J k w v
  | [], _, _, v, _, e, l => by
    rw [List.eq_nil_of_length_eq_zero e] at l
    cases l
  | x :: w, hn, hl, [], _, e, l => by cases e
  | x :: w, hn, hl, y :: v, hv, e, l => Decidable.byContradiction fun h => by
    have el : v.length = w.length := by simpa using e
    have l : x * n ^ w.length + val n w < y * n ^ v.length + val n v := l
    rw [el] at l
    have hw' := fun c hc => hl c (List.mem_cons_of_mem _ hc)
    have hv' := fun c hc => hv c (List.mem_cons_of_mem _ hc)
    obtain ⟨β, γ, e1, h1, h2⟩ := tk_at (f := us J k w) h
    cases β with
    | nil =>
      obtain ⟨rfl, rfl⟩ := List.cons.inj e1
      have h2 : ¬ p ∣ us J k w v := h2
      exact h2 (us_top S (norm_cons hn).2 hw' hv' el (by omega))
    | cons z β =>
      obtain ⟨rfl, rfl⟩ := List.cons.inj e1
      obtain ⟨d, e, ew, hd⟩ := us_front S h2
      have j := h1 y List.mem_cons_self
      have ne : x ≠ y := fun q => by
        rw [q, S.irr] at j
        cases j
      have lt : x < y := by
        refine Decidable.byContradiction fun q => ?_
        have hlt : y + 1 ≤ x := by omega
        have : (y + 1) * n ^ w.length ≤ x * n ^ w.length := Nat.mul_le_mul_right _ hlt
        rw [Nat.add_mul, Nat.one_mul] at this
        have h3 := val_lt hv'
        rw [el] at h3
        omega
      rw [ew] at hn
      exact norm_no hn hd (.inl ⟨j, lt⟩)
/-- a word that is not normal tells nothing of a functional with it as its top -/
theorem not_norm (S : Sys p J Z k) {n : Nat} {f : List Nat → Int} (h : Swaps p J k f) (hz : ∀ (α γ : List Nat) a b, Z a b = true → p ∣ f (α ++ a :: b :: γ)) : ∀ {w : List Nat} (α : List Nat), norm J Z w = false → (∀ c ∈ w, c < n) → (∀ v : List Nat, v.length = w.length → (∀ c ∈ v, c < n) → val n w < val n v → p ∣ f (α ++ v)) → p ∣ f (α ++ w)
  | [], α, hn, _, _ => by cases hn
  | x :: w, α, hn, hl, top => by
    have hw' := fun c hc => hl c (List.mem_cons_of_mem _ hc)
    have hn : (!hit J Z x [] w && norm J Z w) = false := hn
    rcases Bool.and_eq_false_iff.mp hn with q | q
    · have q : hit J Z x [] w = true := by simpa using q
      obtain ⟨d, y, e, ew, _, hd, hk⟩ := hit_is q
      -- y moved ahead of all of d
      have mv : ∀ (m : Nat) (d : List Nat) (α' e : List Nat), d.length = m → (∀ c ∈ d, J c y = true) → (p ∣ f (α' ++ y :: (d ++ e))) → p ∣ f (α' ++ (d ++ y :: e)) := by
        intro m
        induction m with
        | zero =>
          intro d α' e hm _ hp
          rw [List.eq_nil_of_length_eq_zero hm] at hp ⊢
          exact hp
        | succ m ih =>
          intro d α' e hm hj hp
          cases d with
          | nil => cases hm
          | cons c d =>
            have jc := hj c List.mem_cons_self
            have h1 : p ∣ f (α' ++ c :: y :: (d ++ e)) := Decidable.byContradiction fun nz => swap_nz S h (S.sym _ _ jc) nz hp
            have h2 := ih d (α' ++ [c]) e (by simpa using hm) (fun c' hc => hj c' (List.mem_cons_of_mem _ hc)) (by rw [List.append_assoc]; exact h1)
            rw [List.append_assoc] at h2
            exact h2
      rw [ew]
      have e0 : α ++ x :: (d ++ y :: e) = (α ++ [x]) ++ (d ++ y :: e) := by rw [List.append_assoc]; rfl
      rw [e0]
      refine mv _ d (α ++ [x]) e rfl hd ?_
      rw [List.append_assoc]
      show p ∣ f (α ++ x :: y :: (d ++ e))
      rcases hk with ⟨j, lt⟩ | z
      · refine Decidable.byContradiction fun nz => swap_nz S h (S.sym _ _ j) nz ?_
        rw [ew] at hl hw' top
        have yn : y < n := hl y (by simp)
        have hxv : ∀ c ∈ x :: (d ++ e), c < n := fun c hc => hl c (by
          rcases List.mem_cons.mp hc with q | q
          · rw [q]; exact List.mem_cons_self
          · rcases List.mem_append.mp q with q | q
            · simp [q]
            · simp [q])
        refine top (y :: x :: (d ++ e)) (by simp; omega) (fun c hc => ?_) ?_
        · rcases List.mem_cons.mp hc with q | q
          · rw [q]; exact yn
          · exact hxv c q
        · show x * n ^ (d ++ y :: e).length + val n (d ++ y :: e) < y * n ^ (x :: (d ++ e)).length + val n (x :: (d ++ e))
          have l1 : (d ++ y :: e).length = (x :: (d ++ e)).length := by simp; omega
          rw [l1]
          have h3 := val_lt (n := n) (w := d ++ y :: e) hw'
          rw [l1] at h3
          have : (x + 1) * n ^ (x :: (d ++ e)).length ≤ y * n ^ (x :: (d ++ e)).length := Nat.mul_le_mul_right _ lt
          rw [Nat.add_mul, Nat.one_mul] at this
          omega
      · exact hz α (d ++ e) x y z
    · have := not_norm S (n := n) h hz (α ++ [x]) q hw' fun v ev hv l => by
        rw [List.append_assoc]
        refine top (x :: v) (by simp [ev]) (fun c hc => ?_) ?_
        · rcases List.mem_cons.mp hc with q | q
          · rw [q]; exact hl x List.mem_cons_self
          · exact hv c q
        · show x * n ^ w.length + val n w < x * n ^ v.length + val n v
          rw [ev]
          omega
      rw [List.append_assoc] at this
      exact this
end
end KzM
end
section
set_option linter.all false
/-! the mathematics, 4: sums re-indexed, words and their spots -/
namespace KzM
theorem sumN_inj {N : Nat} {g : Nat → Nat} : ∀ {w : Nat} {F : Nat → Int}, (∀ s, s < w → g s < N) → (∀ s t, s < w → t < w → g s = g t → s = t) → (∀ k, k < N → F k ≠ 0 → ∃ s, s < w ∧ k = g s) → sumN N F = sumN w fun s => F (g s)
  | 0, F, _, _, h => sumN_zero fun k hk => Decidable.byContradiction fun z => by
    obtain ⟨s, hs, _⟩ := h k hk z
    omega
  | w + 1, F, hg, inj, h => by
    have e : sumN N F = sumN N (fun k => (if k = g w then F k else 0) + (if k = g w then 0 else F k)) := sumN_congr fun k _ => by
      by_cases q : k = g w
      · rw [if_pos q, if_pos q]; omega
      · rw [if_neg q, if_neg q]; omega
    rw [e, sumN_add, sumN_one (a := g w) (hg w (by omega)) fun k _ nk => if_neg nk, if_pos rfl]
    rw [sumN_inj (w := w) (F := fun k => if k = g w then 0 else F k) (fun s hs => hg s (by omega)) (fun s t hs ht => inj s t (by omega) (by omega)) fun k hk z => ?_]
    · show F (g w) + sumN w _ = sumN w _ + F (g w)
      rw [Int.add_comm]
      congr 1
      refine sumN_congr fun s hs => if_neg fun q => ?_
      have := inj s w (by omega) (by omega) q
      omega
    · have z : (if k = g w then 0 else F k) ≠ 0 := z
      by_cases q : k = g w
      · rw [if_pos q] at z; exact absurd rfl z
      · rw [if_neg q] at z
        obtain ⟨s, hs, e⟩ := h k hk z
        refine ⟨s, ?_, e⟩
        by_cases e2 : s = w
        · rw [e2] at e; exact absurd e q
        · omega
/-- the letters of a spot -/
def dig (n : Nat) : Nat → Nat → List Nat
  | 0, _ => []
  | L + 1, s => (s / n ^ L) :: dig n L (s % n ^ L)
theorem dig_len (n : Nat) : ∀ L s, (dig n L s).length = L
  | 0, _ => rfl
  | L + 1, s => congrArg (· + 1) (dig_len n L _)
theorem dig_lt {n : Nat} (hn : 0 < n) : ∀ {L s : Nat}, s < n ^ L → ∀ c ∈ dig n L s, c < n
  | 0, _, _, c, h => by cases h
  | L + 1, s, hs, c, h => by
    rcases List.mem_cons.mp h with q | q
    · rw [q, Nat.div_lt_iff_lt_mul (Nat.pow_pos hn), Nat.mul_comm, ← Nat.pow_succ]
      exact hs
    · exact dig_lt hn (Nat.mod_lt _ (Nat.pow_pos hn)) c q
theorem val_dig {n : Nat} (hn : 0 < n) : ∀ {L s : Nat}, s < n ^ L → val n (dig n L s) = s
  | 0, s, hs => by
    have : s < 1 := hs
    show 0 = s
    omega
  | L + 1, s, hs => by
    show s / n ^ L * n ^ (dig n L (s % n ^ L)).length + val n (dig n L (s % n ^ L)) = s
    rw [dig_len, val_dig hn (Nat.mod_lt _ (Nat.pow_pos hn)), Nat.mul_comm]
    exact Nat.div_add_mod s _
theorem dig_val {n : Nat} (hn : 0 < n) : ∀ {w : List Nat}, (∀ c ∈ w, c < n) → dig n w.length (val n w) = w
  | [], _ => rfl
  | x :: w, h => by
    have hw := fun c hc => h c (List.mem_cons_of_mem _ hc)
    have l := val_lt hw
    show (val n (x :: w) / n ^ w.length) :: dig n w.length (val n (x :: w) % n ^ w.length) = x :: w
    have e1 : val n (x :: w) = n ^ w.length * x + val n w := by
      show x * n ^ w.length + val n w = _
      rw [Nat.mul_comm]
    rw [e1, Nat.mul_add_div (Nat.pow_pos hn), Nat.div_eq_of_lt l, Nat.add_zero, Nat.mul_add_mod, Nat.mod_eq_of_lt l, dig_val hn hw]
theorem val_app (n : Nat) : ∀ (u v : List Nat), val n (u ++ v) = val n u * n ^ v.length + val n v
  | [], v => by
    show val n v = 0 * _ + val n v
    rw [Nat.zero_mul, Nat.zero_add]
  | x :: u, v => by
    show x * n ^ (u ++ v).length + val n (u ++ v) = (x * n ^ u.length + val n u) * n ^ v.length + val n v
    rw [val_app n u v, List.length_append, Nat.pow_add, Nat.add_mul, ← Nat.mul_assoc]
    omega
theorem val_two (n : Nat) (u v : List Nat) (a b : Nat) : val n (u ++ a :: b :: v) = (val n u * (n * n) + (a * n + b)) * n ^ v.length + val n v := by
  rw [val_app]
  show val n u * n ^ (v.length + 1 + 1) + (a * n ^ (v.length + 1) + (b * n ^ v.length + val n v)) = _
  rw [Nat.pow_succ, Nat.pow_succ, Nat.mul_assoc (n ^ v.length), Nat.add_mul, Nat.add_mul, Nat.mul_comm (n ^ v.length) (n * n), ← Nat.mul_assoc (val n u), Nat.mul_comm (n ^ v.length) n, ← Nat.mul_assoc a]
  omega
end KzM
end
section
set_option linter.all false
/-! the mathematics, 7: how many words are normal, up to three letters -/
namespace KzM
abbrev ind (b : Bool) : Int := if b = true then 1 else 0
theorem filter_ind (P : Nat → Bool) : ∀ N : Nat, ((((List.range N).filter P).length : Nat) : Int) = sumN N fun s => ind (P s)
  | 0 => rfl
  | N + 1 => by
    rw [List.range_succ, List.filter_append, List.length_append, Int.natCast_add, filter_ind P N]
    show _ + _ = sumN N _ + ind (P N)
    congr 1
    by_cases h : P N = true
    · simp [h, ind]
    · simp [h, ind]
theorem sumN_split (F : Nat → Int) (a : Nat) : ∀ b : Nat, sumN (a + b) F = sumN a F + sumN b fun k => F (a + k)
  | 0 => by show sumN a F = sumN a F + 0; omega
  | b + 1 => by
    show sumN (a + b) F + F (a + b) = sumN a F + (sumN b _ + F (a + b))
    rw [sumN_split F a b, Int.add_assoc]
theorem sumN_mulS (m : Nat) (F : Nat → Int) : ∀ n : Nat, sumN (n * m) F = sumN n fun x => sumN m fun r => F (x * m + r)
  | 0 => by rw [Nat.zero_mul]; rfl
  | n + 1 => by
    rw [Nat.succ_mul, sumN_split, sumN_mulS m F n]
    rfl
def wsum (n : Nat) : Nat → (List Nat → Int) → Int
  | 0, F => F []
  | L + 1, F => sumN n fun x => wsum n L fun v => F (x :: v)
theorem dig_wsum {n : Nat} (hn : 0 < n) : ∀ (L : Nat) (F : List Nat → Int), (sumN (n ^ L) fun s => F (dig n L s)) = wsum n L F
  | 0, F => by
    show 0 + F [] = F []
    omega
  | L + 1, F => by
    have hp : 0 < n ^ L := Nat.pow_pos hn
    rw [Nat.pow_succ, Nat.mul_comm, sumN_mulS]
    show _ = sumN n fun x => wsum n L fun v => F (x :: v)
    refine sumN_congr fun x _ => ?_
    rw [← dig_wsum hn L fun v => F (x :: v)]
    refine sumN_congr fun r hr => ?_
    show F ((x * n ^ L + r) / n ^ L :: dig n L ((x * n ^ L + r) % n ^ L)) = F (x :: dig n L r)
    rw [Nat.mul_comm x, Nat.mul_add_div hp, Nat.div_eq_of_lt hr, Nat.add_zero, Nat.mul_add_mod, Nat.mod_eq_of_lt hr]
theorem cnt_wsum {n : Nat} (hn : 0 < n) (L : Nat) (P : List Nat → Bool) : ((((List.range (n ^ L)).filter fun s => P (dig n L s)).length : Nat) : Int) = wsum n L fun w => ind (P w) := by
  rw [filter_ind, dig_wsum hn L fun w => ind (P w)]
/-! ### sums over pairs and triples -/
/-- over x < y < n -/
def tri (n : Nat) (F : Nat → Nat → Int) : Int := sumN n fun y => sumN y fun x => F x y
theorem tri_succ (n : Nat) (F : Nat → Nat → Int) : tri (n + 1) F = tri n F + sumN n fun x => F x n := rfl
theorem tri_congr {n : Nat} {F G : Nat → Nat → Int} (h : ∀ x y, x < y → y < n → F x y = G x y) : tri n F = tri n G := sumN_congr fun y hy => sumN_congr fun x hx => h x y hx hy
theorem tri_add (n : Nat) (F G : Nat → Nat → Int) : tri n (fun x y => F x y + G x y) = tri n F + tri n G := by
  unfold tri
  rw [← sumN_add]
  exact sumN_congr fun y _ => sumN_add _ _ _
theorem tri_mul (n : Nat) (c : Int) (F : Nat → Nat → Int) : tri n (fun x y => c * F x y) = c * tri n F := by
  unfold tri
  rw [← sumN_mul]
  exact sumN_congr fun y _ => sumN_mul _ _ _
theorem sumN_const (c : Int) : ∀ n : Nat, (sumN n fun _ => c) = n * c
  | 0 => by simp [sumN]
  | n + 1 => by
    show sumN n _ + c = _
    rw [sumN_const c n, Int.natCast_add, Int.add_mul]
    show _ + c = _ + 1 * c
    omega
/-- each number stands in n - 1 pairs -/
theorem tri_each (h : Nat → Int) : ∀ n : Nat, tri n (fun x y => h x + h y) = (n - 1) * sumN n h
  | 0 => by simp [tri, sumN]
  | n + 1 => by
    rw [tri_succ, tri_each h n, sumN_add, sumN_const]
    show _ = (((n + 1 : Nat) : Int) - 1) * (sumN n h + h n)
    rw [show (((n + 1 : Nat) : Int) - 1) = n by omega, Int.mul_add, Int.sub_mul]
    omega
theorem sq_sum (F : Nat → Nat → Int) : ∀ n : Nat, (sumN n fun x => sumN n fun y => F x y) = tri n (fun x y => F x y + F y x) + sumN n fun x => F x x
  | 0 => rfl
  | n + 1 => by
    rw [tri_succ]
    show (sumN n fun x => sumN n (fun y => F x y) + F x n) + (sumN n (fun y => F n y) + F n n) = _ + (sumN n (fun x => F x x) + F n n)
    rw [sumN_add, sq_sum F n, sumN_add]
    generalize (sumN n fun x => F x n) = a
    have e : (sumN n fun y => F n y) = sumN n (F n) := rfl
    rw [e]
    omega
theorem cube_succ (F : Nat → Nat → Nat → Int) (n : Nat) : (sumN (n + 1) fun x => sumN (n + 1) fun y => sumN (n + 1) fun z => F x y z) = (sumN n fun x => sumN n fun y => sumN n fun z => F x y z) +
    (sumN n fun x => sumN n fun y => F x y n + F x n y + F n x y) + (sumN n fun x => F x n n + F n x n + F n n x) + F n n n := by
  show (sumN n fun x => (sumN n fun y => sumN n (fun z => F x y z) + F x y n) + (sumN n (fun z => F x n z) + F x n n)) + ((sumN n fun y => sumN n (fun z => F n y z) + F n y n) + (sumN n (fun z => F n n z) + F n n n)) = _
  have e1 : (sumN n fun x => (sumN n fun y => sumN n (fun z => F x y z) + F x y n) + (sumN n (fun z => F x n z) + F x n n)) = (sumN n fun x => sumN n fun y => sumN n fun z => F x y z) + (sumN n fun x => sumN n fun y => F x y n) + (sumN n fun x => sumN n fun z => F x n z) + sumN n fun x => F x n n := by
    rw [← sumN_add, ← sumN_add, ← sumN_add]
    refine sumN_congr fun x _ => ?_
    rw [sumN_add]
    omega
  have e2 : (sumN n fun x => sumN n fun y => F x y n + F x n y + F n x y) = (sumN n fun x => sumN n fun y => F x y n) + (sumN n fun x => sumN n fun z => F x n z) + sumN n fun y => sumN n fun z => F n y z := by
    rw [← sumN_add, ← sumN_add]
    refine sumN_congr fun x _ => ?_
    rw [sumN_add, sumN_add]
  rw [e1, e2, sumN_add, sumN_add, sumN_add]
  have e : (sumN n fun z => F n n z) = sumN n (F n n) := rfl
  rw [e]
  omega
/-- over x < y < z < n -/
def tri3 (n : Nat) (F : Nat → Nat → Nat → Int) : Int := sumN n fun z => tri z fun x y => F x y z
theorem cube_sum (F : Nat → Nat → Nat → Int) : ∀ n : Nat, (sumN n fun x => sumN n fun y => sumN n fun z => F x y z) = tri3 n (fun x y z => F x y z + F x z y + F z x y + (F y x z + F y z x + F z y x)) + tri n (fun x y => F x x y + F x y x + F y x x + (F x y y + F y x y + F y y x)) + sumN n fun x => F x x x
  | 0 => rfl
  | n + 1 => by
    rw [cube_succ, cube_sum F n, sq_sum, tri_succ]
    show _ = (tri3 n _ + tri n (fun x y => F x y n + F x n y + F n x y + (F y x n + F y n x + F n y x))) + (tri n _ + sumN n fun x => F x x n + F x n x + F n x x + (F x n n + F n x n + F n n x)) + (sumN n (fun x => F x x x) + F n n n)
    rw [sumN_add (fun x => F x x n + F x n x + F n x x)]
    omega
end KzM
end
section
set_option linter.all false
/-! the mathematics, 8: words of up to three letters -/
namespace KzM
structure Lets (J Z : Nat → Nat → Bool) (s : Nat → Bool) : Prop where
  sym : ∀ a b, J a b = J b a
  irr : ∀ a, J a a = false
  own : ∀ a, Z a a = s a
section
variable {J Z : Nat → Nat → Bool} {s : Nat → Bool}
theorem norm3 (x y z : Nat) : norm J Z [x, y, z] = (!(((J x y && decide (x < y)) || Z x y) || (J y z && ((J x z && decide (x < z)) || Z x z))) && !((J y z && decide (y < z)) || Z y z)) := by
  simp only [norm, hit, List.all_nil, List.all_cons, Bool.true_and, Bool.and_true, Bool.or_false, Bool.not_false]
theorem norm2 (x y : Nat) : norm J Z [x, y] = !((J x y && decide (x < y)) || Z x y) := by
  simp only [norm, hit, List.all_nil, List.all_cons, Bool.true_and, Bool.and_true, Bool.or_false, Bool.not_false]
theorem norm1 (x : Nat) : norm J Z [x] = true := rfl
abbrev ji (J : Nat → Nat → Bool) (a b : Nat) : Int := ind (J a b)
section
variable (S : Lets J Z s)
include S
theorem one3 (x : Nat) : ind (norm J Z [x, x, x]) = 1 - ind (s x) := by
  rw [norm3, S.irr, S.own]
  cases s x <;> rfl
theorem two2 {x : Nat} : ind (norm J Z [x, x]) = 1 - ind (s x) := by
  rw [norm2, S.irr, S.own]
  cases s x <;> rfl
theorem web2 (hz : ∀ a b, a ≠ b → Z a b = false) {x y : Nat} (h : x < y) : ind (norm J Z [x, y]) + ind (norm J Z [y, x]) = 2 - ji J x y := by
  rw [norm2, norm2, S.sym y x, hz x y (by omega), hz y x (by omega), decide_eq_true h, decide_eq_false (show ¬ y < x by omega)]
  unfold ji
  cases J x y <;> rfl
theorem shut2 (hz : ∀ a b, a ≠ b → Z a b = !J a b) {x y : Nat} (h : x < y) : ind (norm J Z [x, y]) + ind (norm J Z [y, x]) = ji J x y := by
  rw [norm2, norm2, hz x y (by omega), hz y x (by omega), S.sym y x, decide_eq_true h, decide_eq_false (show ¬ y < x by omega)]
  unfold ji
  cases J x y <;> rfl
theorem web3p (hz : ∀ a b, a ≠ b → Z a b = false) {x y : Nat} (h : x < y) : ind (norm J Z [x, x, y]) + ind (norm J Z [x, y, x]) + ind (norm J Z [y, x, x]) + (ind (norm J Z [x, y, y]) + ind (norm J Z [y, x, y]) + ind (norm J Z [y, y, x])) =
    6 - 4 * ji J x y - 2 * (ind (s x) + ind (s y)) + ji J x y * (ind (s x) + ind (s y)) := by
  rw [norm3, norm3, norm3, norm3, norm3, norm3, S.sym y x, hz x y (by omega), hz y x (by omega), decide_eq_true h, decide_eq_false (show ¬ y < x by omega), S.irr, S.irr, S.own, S.own]
  unfold ji
  cases J x y <;> cases s x <;> cases s y <;> rfl
theorem shut3p (hz : ∀ a b, a ≠ b → Z a b = !J a b) {x y : Nat} (h : x < y) : ind (norm J Z [x, x, y]) + ind (norm J Z [x, y, x]) + ind (norm J Z [y, x, x]) + (ind (norm J Z [x, y, y]) + ind (norm J Z [y, x, y]) + ind (norm J Z [y, y, x])) =
    ji J x y * ((1 - ind (s x)) + (1 - ind (s y))) := by
  rw [norm3, norm3, norm3, norm3, norm3, norm3, hz x y (by omega), hz y x (by omega), S.sym y x, decide_eq_true h, decide_eq_false (show ¬ y < x by omega), S.irr, S.irr, S.own, S.own]
  unfold ji
  cases J x y <;> cases s x <;> cases s y <;> rfl
theorem web3t (hz : ∀ a b, a ≠ b → Z a b = false) {x y z : Nat} (h : x < y) (h2 : y < z) : ind (norm J Z [x, y, z]) + ind (norm J Z [x, z, y]) + ind (norm J Z [z, x, y]) + (ind (norm J Z [y, x, z]) + ind (norm J Z [y, z, x]) + ind (norm J Z [z, y, x])) =
    6 - 2 * (ji J x y + ji J x z + ji J y z) + ji J x y * ji J x z * ji J y z := by
  rw [norm3, norm3, norm3, norm3, norm3, norm3, S.sym y x, S.sym z x, S.sym z y, hz x y (by omega), hz y x (by omega), hz x z (by omega), hz z x (by omega), hz y z (by omega), hz z y (by omega), decide_eq_true h, decide_eq_true h2, decide_eq_true (show x < z by omega), decide_eq_false (show ¬ y < x by omega), decide_eq_false (show ¬ z < x by omega), decide_eq_false (show ¬ z < y by omega)]
  unfold ji
  cases J x y <;> cases J x z <;> cases J y z <;> rfl
theorem shut3t (hz : ∀ a b, a ≠ b → Z a b = !J a b) {x y z : Nat} (h : x < y) (h2 : y < z) : ind (norm J Z [x, y, z]) + ind (norm J Z [x, z, y]) + ind (norm J Z [z, x, y]) + (ind (norm J Z [y, x, z]) + ind (norm J Z [y, z, x]) + ind (norm J Z [z, y, x])) =
    ji J x y * ji J x z * ji J y z := by
  rw [norm3, norm3, norm3, norm3, norm3, norm3, hz x y (by omega), hz y x (by omega), hz x z (by omega), hz z x (by omega), hz y z (by omega), hz z y (by omega), S.sym y x, S.sym z x, S.sym z y, decide_eq_true h, decide_eq_true h2, decide_eq_true (show x < z by omega), decide_eq_false (show ¬ y < x by omega), decide_eq_false (show ¬ z < x by omega), decide_eq_false (show ¬ z < y by omega)]
  unfold ji
  cases J x y <;> cases J x z <;> cases J y z <;> rfl
end
/-! ### the sums -/
abbrev eS (J : Nat → Nat → Bool) (n : Nat) : Int := tri n (ji J)
abbrev sS (s : Nat → Bool) (n : Nat) : Int := sumN n fun x => ind (s x)
abbrev t3 (J : Nat → Nat → Bool) (n : Nat) : Int := tri3 n fun x y z => ji J x y * ji J x z * ji J y z
abbrev eE (J : Nat → Nat → Bool) (s : Nat → Bool) (n : Nat) : Int := tri n fun x y => ji J x y * (ind (s x) + ind (s y))
theorem tri_sub (n : Nat) (F G : Nat → Nat → Int) : tri n (fun x y => F x y - G x y) = tri n F - tri n G := by
  have := tri_add n (fun x y => F x y - G x y) G
  have e : tri n (fun x y => F x y - G x y + G x y) = tri n F := tri_congr fun x y _ _ => by omega
  omega
theorem sumN_sub (n : Nat) (F G : Nat → Int) : sumN n (fun x => F x - G x) = sumN n F - sumN n G := by
  have := sumN_add (fun x => F x - G x) G n
  have e : sumN n (fun x => F x - G x + G x) = sumN n F := sumN_congr fun x _ => by omega
  omega
theorem tri_const (c : Int) : ∀ n : Nat, 2 * tri n (fun _ _ => c) = n * (n - 1) * c
  | 0 => by simp [tri, sumN]
  | n + 1 => by
    rw [tri_succ, Int.mul_add, tri_const c n, sumN_const, Int.natCast_add]
    show (n : Int) * ((n : Int) - 1) * c + 2 * ((n : Int) * c) = ((n : Int) + 1) * (((n : Int) + 1) - 1) * c
    rw [show ((n : Int) + 1 - 1) = n by omega, Int.mul_comm ((n : Int) + 1) n, ← Int.mul_assoc 2, ← Int.add_mul]
    congr 1
    rw [Int.mul_sub, Int.mul_add]
    omega
theorem tri3_congr {n : Nat} {F G : Nat → Nat → Nat → Int} (h : ∀ x y z, x < y → y < z → z < n → F x y z = G x y z) : tri3 n F = tri3 n G := sumN_congr fun z hz => tri_congr fun x y hx hy => h x y z hx hy hz
theorem tri3_add (n : Nat) (F G : Nat → Nat → Nat → Int) : tri3 n (fun x y z => F x y z + G x y z) = tri3 n F + tri3 n G := by
  unfold tri3
  rw [← sumN_add]
  exact sumN_congr fun z _ => tri_add _ _ _
theorem tri3_mul (n : Nat) (c : Int) (F : Nat → Nat → Nat → Int) : tri3 n (fun x y z => c * F x y z) = c * tri3 n F := by
  unfold tri3
  rw [← sumN_mul]
  exact sumN_congr fun z _ => tri_mul _ _ _
/-- each pair stands in n - 2 triples -/
theorem tri3_each (F : Nat → Nat → Int) : ∀ n : Nat, tri3 n (fun x y z => F x y + F x z + F y z) = (n - 2) * tri n F
  | 0 => by simp [tri3, tri, sumN]
  | n + 1 => by
    show tri3 n _ + tri n (fun x y => F x y + F x n + F y n) = _
    rw [tri3_each F n, tri_succ]
    have e : tri n (fun x y => F x y + F x n + F y n) = tri n F + tri n (fun x y => F x n + F y n) := by
      rw [← tri_add]
      exact tri_congr fun x y _ _ => by omega
    rw [e, tri_each (fun x => F x n) n, Int.natCast_add]
    show _ = (((n : Int) + 1) - 2) * (tri n F + sumN n fun x => F x n)
    rw [show ((n : Int) + 1 - 2) = (n : Int) - 1 by omega, Int.mul_add, Int.sub_mul, Int.sub_mul (n : Int) 1 (tri n F), Int.one_mul]
    omega
theorem cube_tri : ∀ n : Nat, tri3 n (fun _ _ _ => (6 : Int)) + tri n (fun _ _ => (6 : Int)) + n = n * n * n
  | n => by
    have := cube_sum (fun _ _ _ => (1 : Int)) n
    rw [sumN_const 1 n] at this
    rw [sumN_const, sumN_const, Int.mul_one, ← Int.mul_assoc] at this
    exact this.symm
variable (S : Lets J Z s)
include S
theorem web_two (hz : ∀ a b, a ≠ b → Z a b = false) (n : Nat) : wsum n 2 (fun w => ind (norm J Z w)) = n * n - eS J n - sS s n := by
  show (sumN n fun x => sumN n fun y => ind (norm J Z [x, y])) = _
  rw [sq_sum, tri_congr (G := fun x y => 2 - ji J x y) fun x y h _ => web2 S hz h, sumN_congr (g := fun x => 1 - ind (s x)) fun x _ => two2 S, tri_sub, sumN_sub, sumN_const]
  have := tri_const 2 n
  have e : (n : Int) * ((n : Int) - 1) = n * n - n := by rw [Int.mul_sub, Int.mul_one]
  rw [e] at this
  unfold eS sS
  omega
theorem shut_two (hz : ∀ a b, a ≠ b → Z a b = !J a b) (n : Nat) : wsum n 2 (fun w => ind (norm J Z w)) = eS J n + sumN n fun x => 1 - ind (s x) := by
  show (sumN n fun x => sumN n fun y => ind (norm J Z [x, y])) = _
  rw [sq_sum, tri_congr (G := fun x y => ji J x y) fun x y h _ => shut2 S hz h, sumN_congr (g := fun x => 1 - ind (s x)) fun x _ => two2 S]
theorem web_three (hz : ∀ a b, a ≠ b → Z a b = false) (n : Nat) : wsum n 3 (fun w => ind (norm J Z w)) = n * n * n - 2 * n * (eS J n + sS s n) + (t3 J n + eE J s n + sS s n) := by
  show (sumN n fun x => sumN n fun y => sumN n fun z => ind (norm J Z [x, y, z])) = _
  rw [cube_sum, tri3_congr (G := fun x y z => 6 - 2 * (ji J x y + ji J x z + ji J y z) + ji J x y * ji J x z * ji J y z) fun x y z h h2 _ => web3t S hz h h2,
    tri_congr (G := fun x y => 6 - 4 * ji J x y - 2 * (ind (s x) + ind (s y)) + ji J x y * (ind (s x) + ind (s y))) fun x y h _ => web3p S hz h, sumN_congr (g := fun x => 1 - ind (s x)) fun x _ => one3 S x,
    tri3_add, tri_add, tri_sub, tri_sub, sumN_sub, sumN_const, tri_mul, tri_mul, tri_each (fun x => ind (s x)) n]
  have e1 : tri3 n (fun x y z => 6 - 2 * (ji J x y + ji J x z + ji J y z)) = tri3 n (fun _ _ _ => (6 : Int)) - 2 * (((n : Int) - 2) * eS J n) := by
    have h1 := tri3_add n (fun x y z => 6 - 2 * (ji J x y + ji J x z + ji J y z)) (fun x y z => 2 * (ji J x y + ji J x z + ji J y z))
    have h2 : tri3 n (fun x y z => 6 - 2 * (ji J x y + ji J x z + ji J y z) + 2 * (ji J x y + ji J x z + ji J y z)) = tri3 n (fun _ _ _ => (6 : Int)) := tri3_congr fun x y z _ _ _ => by omega
    rw [tri3_mul, tri3_each (ji J) n] at h1
    unfold eS
    omega
  rw [e1]
  have h := cube_tri n
  have a1 : ((n : Int) - 2) * eS J n = n * eS J n - 2 * eS J n := Int.sub_mul _ _ _
  have a2 : ((n : Int) - 1) * sS s n = n * sS s n - sS s n := by rw [Int.sub_mul, Int.one_mul]
  have a3 : 2 * (n : Int) * (eS J n + sS s n) = 2 * (n * eS J n) + 2 * (n * sS s n) := by rw [Int.mul_assoc, Int.mul_add, Int.mul_add]
  rw [a1, a2, a3]
  unfold eS sS t3 eE
  simp only [eS, sS] at a1 a2 a3
  omega
theorem shut_three (hz : ∀ a b, a ≠ b → Z a b = !J a b) (n : Nat) : wsum n 3 (fun w => ind (norm J Z w)) = t3 J n + tri n (fun x y => ji J x y * ((1 - ind (s x)) + (1 - ind (s y)))) + sumN n fun x => 1 - ind (s x) := by
  show (sumN n fun x => sumN n fun y => sumN n fun z => ind (norm J Z [x, y, z])) = _
  rw [cube_sum, tri3_congr (G := fun x y z => ji J x y * ji J x z * ji J y z) fun x y z h h2 _ => shut3t S hz h h2,
    tri_congr (G := fun x y => ji J x y * ((1 - ind (s x)) + (1 - ind (s y)))) fun x y h _ => shut3p S hz h, sumN_congr (g := fun x => 1 - ind (s x)) fun x _ => one3 S x]
end
end KzM
end
section
set_option linter.all false
set_option maxRecDepth 100000
/-! the mathematics, 9: sums over lots, and the counts -/
namespace KzM
def lotsB (j : Nat → Nat → Bool) : Nat → List (List Nat)
  | 0 => [[]]
  | m + 1 => lotsB j m ++ ((lotsB j m).filter fun lot => lot.all fun o => j o m).map fun lot => lot ++ [m]
def lotG (g : Nat → Ser) (lot : List Nat) : Ser := lot.foldl (fun W x => conv W (g x)) one
def WP (j : Nat → Nat → Bool) (g : Nat → Ser) (P : Nat → Bool) (m : Nat) : Ser := fun k => (((lotsB j m).filter fun lot => lot.all P).map fun lot => lotG g lot k).sum
theorem lotG_snoc (g : Nat → Ser) (lot : List Nat) (x : Nat) : lotG g (lot ++ [x]) = conv (lotG g lot) (g x) := by
  unfold lotG
  rw [List.foldl_append]
  rfl
theorem sum_conv {α : Type} (F : α → Ser) (h : Ser) (k : Nat) : ∀ l : List α, (l.map fun a => conv (F a) h k).sum = conv (fun k => (l.map fun a => F a k).sum) h k
  | [] => (conv_zeroL h (fun _ => rfl) k).symm
  | a :: l => by
    rw [List.map_cons, List.sum_cons, sum_conv F h k l, ← conv_addL]
    exact conv_congrL h (fun _ => by rw [List.map_cons, List.sum_cons]) k
theorem WP_succ (j : Nat → Nat → Bool) (g : Nat → Ser) (P : Nat → Bool) (m k : Nat) : WP j g P (m + 1) k = WP j g P m k + if P m = true then conv (WP j g (fun o => P o && j o m) m) (g m) k else 0 := by
  unfold WP
  show (((lotsB j m ++ _).filter _).map _).sum = _
  rw [List.filter_append, List.map_append, List.sum_append]
  congr 1
  rw [List.filter_map, List.map_map]
  by_cases h : P m = true
  · rw [if_pos h, ← sum_conv, List.filter_filter]
    have e : ((lotsB j m).filter fun lot => ((fun lot => lot.all P) ∘ fun lot => lot ++ [m]) lot && lot.all fun o => j o m) = (lotsB j m).filter fun lot => lot.all fun o => P o && j o m := by
      refine List.filter_congr fun lot hlot => ?_
      clear hlot
      show ((lot ++ [m]).all P && lot.all fun o => j o m) = _
      rw [List.all_append]
      show ((lot.all P && (P m && true)) && _) = _
      rw [h, Bool.and_true, Bool.and_true]
      induction lot with
      | nil => rfl
      | cons a l ih =>
        show ((P a && l.all P) && (j a m && l.all fun o => j o m)) = ((P a && j a m) && l.all fun o => P o && j o m)
        rw [← ih]
        cases P a <;> cases j a m <;> cases l.all P <;> rfl
    rw [e]
    congr 1
    exact List.map_congr_left fun lot _ => by
      show lotG g (lot ++ [m]) k = _
      rw [lotG_snoc]
  · rw [if_neg h]
    have e : ((lotsB j m).filter fun lot => lot.all fun o => j o m).filter ((fun lot => lot.all P) ∘ fun lot => lot ++ [m]) = [] := by
      rw [List.filter_eq_nil_iff]
      intro lot _ q
      have q : (lot ++ [m]).all P = true := q
      exact h (List.all_eq_true.mp q m (by simp))
    rw [e]
    rfl
section
variable {j : Nat → Nat → Bool} {g : Nat → Ser} (g0 : ∀ x, g x 0 = 0)
theorem conv0 (f h : Ser) (z : h 0 = 0) : conv f h 0 = 0 := by
  show f 0 * h 0 = 0
  rw [z, Int.mul_zero]
theorem conv1 (f h : Ser) (z : h 0 = 0) : conv f h 1 = f 0 * h 1 := by
  show f 0 * h 1 + f 1 * h 0 = _
  rw [z, Int.mul_zero, Int.add_zero]
theorem conv2 (f h : Ser) (z : h 0 = 0) : conv f h 2 = f 0 * h 2 + f 1 * h 1 := by
  show f 0 * h 2 + (f 1 * h 1 + f 2 * h 0) = _
  rw [z, Int.mul_zero, Int.add_zero]
theorem conv3 (f h : Ser) (z : h 0 = 0) : conv f h 3 = f 0 * h 3 + f 1 * h 2 + f 2 * h 1 := by
  show f 0 * h 3 + (f 1 * h 2 + (f 2 * h 1 + f 3 * h 0)) = _
  rw [z, Int.mul_zero, Int.add_zero, Int.add_assoc]
theorem ite_ind (b : Bool) (x : Int) : (if b = true then x else 0) = ind b * x := by
  cases b
  · exact (Int.zero_mul x).symm
  · exact (Int.one_mul x).symm
theorem ind_and (a b : Bool) : ind (a && b) = ind a * ind b := by
  cases a <;> cases b <;> rfl
include g0
theorem WP_zero : ∀ (m : Nat) (P : Nat → Bool), WP j g P m 0 = 1
  | 0, P => rfl
  | m + 1, P => by
    rw [WP_succ, WP_zero m P, conv0 _ _ (g0 m)]
    split <;> rfl
theorem WP_one : ∀ (m : Nat) (P : Nat → Bool), WP j g P m 1 = sumN m fun x => ind (P x) * g x 1
  | 0, P => rfl
  | m + 1, P => by
    rw [WP_succ, WP_one m P, conv1 _ _ (g0 m), WP_zero g0, Int.one_mul, ite_ind]
    rfl
theorem WP_two : ∀ (m : Nat) (P : Nat → Bool), WP j g P m 2 = (sumN m fun x => ind (P x) * g x 2) + tri m fun x y => ind (P x) * ind (P y) * (ji j x y * (g x 1 * g y 1))
  | 0, P => rfl
  | m + 1, P => by
    rw [WP_succ, WP_two m P, conv2 _ _ (g0 m), WP_zero g0, Int.one_mul, WP_one g0, ite_ind, tri_succ, Int.mul_add]
    show _ = (sumN m _ + ind (P m) * g m 2) + _
    have e : ind (P m) * ((sumN m fun x => ind (P x && j x m) * g x 1) * g m 1) = sumN m fun x => ind (P x) * ind (P m) * (ji j x m * (g x 1 * g m 1)) := by
      rw [Int.mul_comm (sumN m _), ← sumN_mul, ← sumN_mul]
      refine sumN_congr fun x _ => ?_
      rw [ind_and]
      simp only [Int.mul_assoc, Int.mul_left_comm, Int.mul_comm]
    rw [e]
    omega
theorem WP_three : ∀ (m : Nat) (P : Nat → Bool), WP j g P m 3 = (sumN m fun x => ind (P x) * g x 3) + (tri m fun x y => ind (P x) * ind (P y) * (ji j x y * (g x 2 * g y 1 + g x 1 * g y 2))) +
      tri3 m fun x y z => ind (P x) * ind (P y) * ind (P z) * (ji j x y * ji j x z * ji j y z * (g x 1 * g y 1 * g z 1))
  | 0, P => rfl
  | m + 1, P => by
    rw [WP_succ, WP_three m P, conv3 _ _ (g0 m), WP_zero g0, Int.one_mul, WP_one g0, WP_two g0, ite_ind, tri_succ, Int.mul_add, Int.mul_add]
    show _ = (sumN m _ + ind (P m) * g m 3) + _ + (tri3 m _ + tri m fun x y => ind (P x) * ind (P y) * ind (P m) * (ji j x y * ji j x m * ji j y m * (g x 1 * g y 1 * g m 1)))
    have e1 : ind (P m) * ((sumN m fun x => ind (P x && j x m) * g x 1) * g m 2) = sumN m fun x => ind (P x) * ind (P m) * (ji j x m * (g x 1 * g m 2)) := by
      rw [Int.mul_comm (sumN m _), ← sumN_mul, ← sumN_mul]
      refine sumN_congr fun x _ => ?_
      rw [ind_and]
      simp only [Int.mul_assoc, Int.mul_left_comm, Int.mul_comm]
    have e2 : ind (P m) * (((sumN m fun x => ind (P x && j x m) * g x 2) + tri m fun x y => ind (P x && j x m) * ind (P y && j y m) * (ji j x y * (g x 1 * g y 1))) * g m 1) =
        (sumN m fun x => ind (P x) * ind (P m) * (ji j x m * (g x 2 * g m 1))) + tri m fun x y => ind (P x) * ind (P y) * ind (P m) * (ji j x y * ji j x m * ji j y m * (g x 1 * g y 1 * g m 1)) := by
      rw [Int.mul_comm _ (g m 1), Int.mul_add, Int.mul_add, ← sumN_mul, ← sumN_mul, ← tri_mul, ← tri_mul]
      congr 1
      · refine sumN_congr fun x _ => ?_
        rw [ind_and]
        simp only [Int.mul_assoc, Int.mul_left_comm, Int.mul_comm]
      · refine tri_congr fun x y _ _ => ?_
        rw [ind_and, ind_and]
        simp only [Int.mul_assoc, Int.mul_left_comm, Int.mul_comm]
    have e3 : (sumN m fun x => ind (P x) * ind (P m) * (ji j x m * (g x 2 * g m 1 + g x 1 * g m 2))) = (sumN m fun x => ind (P x) * ind (P m) * (ji j x m * (g x 2 * g m 1))) + sumN m fun x => ind (P x) * ind (P m) * (ji j x m * (g x 1 * g m 2)) := by
      rw [← sumN_add]
      refine sumN_congr fun x _ => ?_
      rw [Int.mul_add, Int.mul_add]
    rw [e1, e2, e3]
    omega
end
/-! ### the law's series -/
/-- -t, or -t / (1 + t) -/
def gW (s : Nat → Bool) (x : Nat) : Ser := fun k => if s x = true then (if k = 0 then 0 else (-1) ^ k) else if k = 1 then -1 else 0
/-- t / (1 - t), or t -/
def gS (s : Nat → Bool) (x : Nat) : Ser := fun k => if s x = true then (if k = 1 then 1 else 0) else if k = 0 then 0 else 1
abbrev yes : Nat → Bool := fun _ => true
section
variable {J Z : Nat → Nat → Bool} {s : Nat → Bool}
theorem gW_at (x : Nat) : gW s x 0 = 0 ∧ gW s x 1 = -1 ∧ gW s x 2 = ind (s x) ∧ gW s x 3 = - ind (s x) := by
  unfold gW
  cases s x <;> exact ⟨rfl, rfl, rfl, rfl⟩
theorem gS_at (x : Nat) : gS s x 0 = 0 ∧ gS s x 1 = 1 ∧ gS s x 2 = 1 - ind (s x) ∧ gS s x 3 = 1 - ind (s x) := by
  unfold gS
  cases s x <;> exact ⟨rfl, rfl, rfl, rfl⟩
theorem wsum_one (n : Nat) : wsum n 1 (fun w => ind (norm J Z w)) = n := by
  have e : (sumN n fun x => ind (norm J Z [x])) = sumN n fun _ => (1 : Int) := sumN_congr fun _ _ => rfl
  show (sumN n fun x => ind (norm J Z [x])) = _
  rw [e, sumN_const, Int.mul_one]
theorem sumN_neg (f : Nat → Int) (n : Nat) : sumN n (fun x => - f x) = - sumN n f := by
  have := sumN_mul (-1) f n
  rw [← Int.neg_mul_eq_neg_mul, Int.one_mul] at this
  rw [← this]
  exact sumN_congr fun x _ => by rw [← Int.neg_mul_eq_neg_mul, Int.one_mul]
theorem tri_neg (F : Nat → Nat → Int) (n : Nat) : tri n (fun x y => - F x y) = - tri n F := by
  have := tri_mul n (-1) F
  rw [← Int.neg_mul_eq_neg_mul, Int.one_mul] at this
  rw [← this]
  exact tri_congr fun x y _ _ => by rw [← Int.neg_mul_eq_neg_mul, Int.one_mul]
theorem tri3_neg (F : Nat → Nat → Nat → Int) (n : Nat) : tri3 n (fun x y z => - F x y z) = - tri3 n F := by
  have := tri3_mul n (-1) F
  rw [← Int.neg_mul_eq_neg_mul, Int.one_mul] at this
  rw [← this]
  exact tri3_congr fun x y z _ _ _ => by rw [← Int.neg_mul_eq_neg_mul, Int.one_mul]
theorem web_low (S : Lets J Z s) (hz : ∀ a b, a ≠ b → Z a b = false) (n : Nat) {k : Nat} (hk : k ≤ 3) : conv (WP J (gW s) yes n) (fun L => wsum n L fun w => ind (norm J Z w)) k = one k := by
  have g0 : ∀ x, gW s x 0 = 0 := fun x => (gW_at x).1
  have w0 : WP J (gW s) yes n 0 = 1 := WP_zero g0 n yes
  have w1 : WP J (gW s) yes n 1 = - n := by
    rw [WP_one g0, sumN_congr (g := fun _ => (-1 : Int)) fun x _ => by rw [(gW_at x).2.1]; rfl, sumN_const]
    omega
  have w2 : WP J (gW s) yes n 2 = sS s n + eS J n := by
    rw [WP_two g0, sumN_congr (g := fun x => ind (s x)) fun x _ => by rw [(gW_at x).2.2.1]; exact Int.one_mul _, tri_congr (G := ji J) fun x y _ _ => by rw [(gW_at x).2.1, (gW_at y).2.1]; show 1 * 1 * (ji J x y * 1) = _; omega]
  have w3 : WP J (gW s) yes n 3 = - sS s n - eE J s n - t3 J n := by
    rw [WP_three g0, sumN_congr (g := fun x => - ind (s x)) fun x _ => by rw [(gW_at x).2.2.2]; exact Int.one_mul _,
      tri_congr (G := fun x y => - (ji J x y * (ind (s x) + ind (s y)))) fun x y _ _ => by
        rw [(gW_at x).2.1, (gW_at y).2.1, (gW_at x).2.2.1, (gW_at y).2.2.1]
        show 1 * 1 * (ji J x y * (ind (s x) * -1 + -1 * ind (s y))) = _
        rw [Int.mul_one, Int.one_mul, ← Int.mul_neg]
        congr 1
        omega,
      tri3_congr (G := fun x y z => - (ji J x y * ji J x z * ji J y z)) fun x y z _ _ _ => by
        rw [(gW_at x).2.1, (gW_at y).2.1, (gW_at z).2.1]
        show 1 * 1 * 1 * (ji J x y * ji J x z * ji J y z * (-1 * -1 * -1)) = _
        omega, sumN_neg, tri_neg, tri3_neg]
    unfold sS eE t3
    omega
  have c0 : wsum n 0 (fun w => ind (norm J Z w)) = 1 := rfl
  have c1 := wsum_one (J := J) (Z := Z) n
  have c2 := web_two S hz n
  have c3 := web_three S hz n
  match k, hk with
  | 0, _ => show WP J (gW s) yes n 0 * wsum n 0 _ = 1; rw [w0, c0]; rfl
  | 1, _ =>
    show WP J (gW s) yes n 0 * wsum n 1 _ + WP J (gW s) yes n 1 * wsum n 0 _ = 0
    rw [w0, w1, c0, c1]; omega
  | 2, _ =>
    show WP J (gW s) yes n 0 * wsum n 2 _ + (WP J (gW s) yes n 1 * wsum n 1 _ + WP J (gW s) yes n 2 * wsum n 0 _) = 0
    rw [w0, w1, w2, c0, c1, c2, Int.neg_mul]; omega
  | 3, _ =>
    show WP J (gW s) yes n 0 * wsum n 3 _ + (WP J (gW s) yes n 1 * wsum n 2 _ + (WP J (gW s) yes n 2 * wsum n 1 _ + WP J (gW s) yes n 3 * wsum n 0 _)) = 0
    rw [w0, w1, w2, w3, c0, c1, c2, c3]
    have a1 : (- (n : Int)) * (n * n - eS J n - sS s n) = - (n * n * n) + n * eS J n + n * sS s n := by
      rw [Int.neg_mul, Int.mul_sub, Int.mul_sub, Int.mul_assoc]; omega
    have a2 : 2 * (n : Int) * (eS J n + sS s n) = 2 * (n * eS J n) + 2 * (n * sS s n) := by rw [Int.mul_assoc, Int.mul_add, Int.mul_add]
    have a3 : (sS s n + eS J n) * (n : Int) = n * sS s n + n * eS J n := by rw [Int.mul_comm, Int.mul_add]
    rw [a1, a2, a3]
    omega
theorem shut_low (S : Lets J Z s) (hz : ∀ a b, a ≠ b → Z a b = !J a b) (n : Nat) {k : Nat} (hk : k ≤ 3) : WP J (gS s) yes n k = wsum n k fun w => ind (norm J Z w) := by
  have g0 : ∀ x, gS s x 0 = 0 := fun x => (gS_at x).1
  match k, hk with
  | 0, _ => exact WP_zero g0 n yes
  | 1, _ =>
    rw [WP_one g0, wsum_one, sumN_congr (g := fun _ => (1 : Int)) fun x _ => by rw [(gS_at x).2.1]; rfl, sumN_const, Int.mul_one]
  | 2, _ =>
    rw [WP_two g0, shut_two S hz n, sumN_congr (g := fun x => 1 - ind (s x)) fun x _ => by rw [(gS_at x).2.2.1]; exact Int.one_mul _, tri_congr (G := ji J) fun x y _ _ => by rw [(gS_at x).2.1, (gS_at y).2.1]; show 1 * 1 * (ji J x y * 1) = _; omega]
    unfold eS
    omega
  | 3, _ =>
    rw [WP_three g0, shut_three S hz n, sumN_congr (g := fun x => 1 - ind (s x)) fun x _ => by rw [(gS_at x).2.2.2]; exact Int.one_mul _,
      tri_congr (G := fun x y => ji J x y * ((1 - ind (s x)) + (1 - ind (s y)))) fun x y _ _ => by
        rw [(gS_at x).2.1, (gS_at y).2.1, (gS_at x).2.2.1, (gS_at y).2.2.1]
        show 1 * 1 * (ji J x y * ((1 - ind (s x)) * 1 + 1 * (1 - ind (s y)))) = _
        rw [Int.mul_one, Int.one_mul, Int.mul_one, Int.one_mul],
      tri3_congr (G := fun x y z => ji J x y * ji J x z * ji J y z) fun x y z _ _ _ => by
        rw [(gS_at x).2.1, (gS_at y).2.1, (gS_at z).2.1]
        show 1 * 1 * 1 * (ji J x y * ji J x z * ji J y z * (1 * 1 * 1)) = _
        omega]
    unfold t3
    omega
end
end KzM
end
section
set_option linter.all false
set_option maxRecDepth 100000
/-! the mathematics, 10: the few letters, all lengths that are asked -/
namespace KzM
theorem hit_congr {J J' Z Z' : Nat → Nat → Bool} {n x : Nat} (hj : ∀ a b, a < n → b < n → J a b = J' a b) (hz : ∀ a b, a < n → b < n → Z a b = Z' a b) (hx : x < n) : ∀ {w b : List Nat}, (∀ c ∈ w, c < n) → (∀ c ∈ b, c < n) → hit J Z x b w = hit J' Z' x b w
  | [], _, _, _ => rfl
  | y :: r, b, hw, hb => by
    have hy := hw y List.mem_cons_self
    show ((b.all (fun c => J c y) && ((J x y && decide (x < y)) || Z x y)) || hit J Z x (y :: b) r) = ((b.all (fun c => J' c y) && ((J' x y && decide (x < y)) || Z' x y)) || hit J' Z' x (y :: b) r)
    rw [hit_congr hj hz hx (w := r) (b := y :: b) (fun c hc => hw c (List.mem_cons_of_mem _ hc)) (fun c hc => by
      rcases List.mem_cons.mp hc with q | q
      · rw [q]; exact hy
      · exact hb c q), hj x y hx hy, hz x y hx hy]
    have e : b.all (fun c => J c y) = b.all (fun c => J' c y) := by
      clear hw
      induction b with
      | nil => rfl
      | cons c b ih =>
        show (J c y && b.all _) = (J' c y && b.all _)
        rw [hj c y (hb c List.mem_cons_self) hy, ih fun c hc => hb c (List.mem_cons_of_mem _ hc)]
    rw [e]
theorem norm_congr {J J' Z Z' : Nat → Nat → Bool} {n : Nat} (hj : ∀ a b, a < n → b < n → J a b = J' a b) (hz : ∀ a b, a < n → b < n → Z a b = Z' a b) : ∀ {w : List Nat}, (∀ c ∈ w, c < n) → norm J Z w = norm J' Z' w
  | [], _ => rfl
  | x :: w, h => by
    have hw := fun c hc => h c (List.mem_cons_of_mem _ hc)
    show (!hit J Z x [] w && norm J Z w) = (!hit J' Z' x [] w && norm J' Z' w)
    rw [norm_congr hj hz hw, hit_congr hj hz (h x List.mem_cons_self) hw (by simp)]
theorem wsum_congr {n : Nat} : ∀ {L : Nat} {F G : List Nat → Int}, (∀ w, (∀ c ∈ w, c < n) → F w = G w) → wsum n L F = wsum n L G
  | 0, F, G, h => h [] (by simp)
  | L + 1, F, G, h => sumN_congr fun x hx => wsum_congr fun w hw => h (x :: w) fun c hc => by
    rcases List.mem_cons.mp hc with q | q
    · rw [q]; exact hx
    · exact hw c q
theorem lotsB_at (j : Nat → Nat → Bool) : ∀ m, ∀ lot ∈ lotsB j m, ∀ x ∈ lot, x < m
  | 0, lot, h, x, hx => by
    rw [List.mem_singleton.mp h] at hx
    cases hx
  | m + 1, lot, h, x, hx => by
    rcases List.mem_append.mp h with q | q
    · have := lotsB_at j m lot q x hx
      omega
    · obtain ⟨l, hl, rfl⟩ := List.mem_map.mp q
      rcases List.mem_append.mp hx with z | z
      · have := lotsB_at j m l (List.mem_filter.mp hl).1 x z
        omega
      · rw [List.mem_singleton.mp z]
        omega
theorem all_congr {P Q : Nat → Bool} : ∀ {l : List Nat}, (∀ x ∈ l, P x = Q x) → l.all P = l.all Q
  | [], _ => rfl
  | a :: l, h => by
    show (P a && l.all P) = (Q a && l.all Q)
    rw [h a List.mem_cons_self, all_congr fun x hx => h x (List.mem_cons_of_mem _ hx)]
theorem lotsB_congr {j j' : Nat → Nat → Bool} : ∀ {m : Nat}, (∀ a b, a < b → b < m → j a b = j' a b) → lotsB j m = lotsB j' m
  | 0, _ => rfl
  | m + 1, h => by
    show lotsB j m ++ ((lotsB j m).filter fun lot => lot.all fun o => j o m).map _ = lotsB j' m ++ ((lotsB j' m).filter fun lot => lot.all fun o => j' o m).map _
    rw [lotsB_congr (m := m) fun a b h1 h2 => h a b h1 (by omega)]
    congr 2
    exact List.filter_congr fun lot hl => all_congr fun x hx => h x m (lotsB_at j' m lot hl x hx) (by omega)
theorem lotG_congr {g g' : Nat → Ser} {lot : List Nat} (h : ∀ x ∈ lot, g x = g' x) : lotG g lot = lotG g' lot := by
  have : ∀ (l : List Nat) (W : Ser), (∀ x ∈ l, g x = g' x) → l.foldl (fun W x => conv W (g x)) W = l.foldl (fun W x => conv W (g' x)) W := by
    intro l
    induction l with
    | nil => intro W _; rfl
    | cons a l ih =>
      intro W hl
      show l.foldl _ (conv W (g a)) = l.foldl _ (conv W (g' a))
      rw [hl a List.mem_cons_self]
      exact ih _ fun x hx => hl x (List.mem_cons_of_mem _ hx)
  exact this lot one h
theorem WP_congr {j j' : Nat → Nat → Bool} {g g' : Nat → Ser} {m : Nat} (h : ∀ a b, a < b → b < m → j a b = j' a b) (hg : ∀ x, x < m → g x = g' x) (k : Nat) : WP j g yes m k = WP j' g' yes m k := by
  unfold WP
  rw [lotsB_congr h]
  congr 1
  exact List.map_congr_left fun lot hl => by rw [lotG_congr fun x hx => hg x (lotsB_at j' m lot (List.mem_filter.mp hl).1 x hx)]
/-! ### tables -/
def tJ (a b c : Bool) : Nat → Nat → Bool
  | 0, 1 => a
  | 1, 0 => a
  | 0, 2 => b
  | 2, 0 => b
  | 1, 2 => c
  | 2, 1 => c
  | _, _ => false
def tS (a b c : Bool) : Nat → Bool
  | 0 => a
  | 1 => b
  | 2 => c
  | _ => false
def tZ (J : Nat → Nat → Bool) (s : Nat → Bool) (shut : Bool) (a b : Nat) : Bool := if a = b then s a else shut && !J a b
def webOk (n k : Nat) (a b c d e f : Bool) : Bool := decide (conv (WP (tJ a b c) (gW (tS d e f)) yes n) (fun L => wsum n L fun w => ind (norm (tJ a b c) (tZ (tJ a b c) (tS d e f) false) w)) k = 0)
def shutOk (n k : Nat) (a b c d e f : Bool) : Bool := decide (WP (tJ a b c) (gS (tS d e f)) yes n k = wsum n k fun w => ind (norm (tJ a b c) (tZ (tJ a b c) (tS d e f) true) w))
def bs : List Bool := [false, true]
def asked : List (Nat × Nat) := [(1, 4), (1, 5), (1, 6), (2, 4), (2, 5), (2, 6), (3, 4)]
theorem mem_bs (b : Bool) : b ∈ bs := by cases b <;> decide
def allOk (Q : Nat → Nat → Bool → Bool → Bool → Bool → Bool → Bool → Bool) : Bool := asked.all fun x => bs.all fun a => (if x.1 = 3 then bs else [false]).all fun b => (if x.1 = 3 then bs else [false]).all fun c => bs.all fun d => bs.all fun e => (if x.1 = 3 then bs else [false]).all fun f => Q x.1 x.2 a b c d e f
theorem web_all : allOk webOk = true := by decide +kernel
theorem shut_all : allOk shutOk = true := by decide +kernel
theorem all_at {Q : Nat → Nat → Bool → Bool → Bool → Bool → Bool → Bool → Bool} (h : allOk Q = true) {n k : Nat} (hk : (n, k) ∈ asked) (J : Nat → Nat → Bool) (s : Nat → Bool) : ∃ a b c d e f, Q n k a b c d e f = true ∧ ((∀ a, J a a = false) → (∀ a b, J a b = J b a) → ∀ x y, x < n → y < n → J x y = tJ a b c x y) ∧ ∀ x, x < n → s x = tS d e f x := by
  have h := List.all_eq_true.mp h (n, k) hk
  have n3 : n ≤ 3 := by
    have : ∀ x ∈ asked, x.1 ≤ 3 := by decide
    exact this _ hk
  have hb : ∀ v : Bool, (if n = 3 then v else false) ∈ (if n = 3 then bs else [false]) := fun v => by
    by_cases q : n = 3
    · rw [if_pos q, if_pos q]; exact mem_bs v
    · rw [if_neg q, if_neg q]; exact List.mem_cons_self
  have h := List.all_eq_true.mp h (J 0 1) (mem_bs _)
  have h := List.all_eq_true.mp h _ (hb (J 0 2))
  have h := List.all_eq_true.mp h _ (hb (J 1 2))
  have h := List.all_eq_true.mp h (s 0) (mem_bs _)
  have h := List.all_eq_true.mp h (s 1) (mem_bs _)
  have h := List.all_eq_true.mp h _ (hb (s 2))
  refine ⟨_, _, _, _, _, _, h, fun ir sy x y hx hy => ?_, fun x hx => ?_⟩
  · have hx3 : x < 3 := by omega
    have hy3 : y < 3 := by omega
    match x, y, hx3, hy3 with
    | 0, 0, _, _ => exact ir 0
    | 1, 1, _, _ => exact ir 1
    | 2, 2, _, _ => exact ir 2
    | 0, 1, _, _ => rfl
    | 1, 0, _, _ => exact sy 1 0
    | 0, 2, _, _ => show J 0 2 = if n = 3 then J 0 2 else false; rw [if_pos (by omega)]
    | 2, 0, _, _ => show J 2 0 = if n = 3 then J 0 2 else false; rw [if_pos (by omega), sy]
    | 1, 2, _, _ => show J 1 2 = if n = 3 then J 1 2 else false; rw [if_pos (by omega)]
    | 2, 1, _, _ => show J 2 1 = if n = 3 then J 1 2 else false; rw [if_pos (by omega), sy]
  · have hx3 : x < 3 := by omega
    match x, hx3 with
    | 0, _ => rfl
    | 1, _ => rfl
    | 2, _ => show s 2 = if n = 3 then s 2 else false; rw [if_pos (by omega)]
theorem one_asked {n k : Nat} (hk : (n, k) ∈ asked) : one k = 0 := by
  have : ∀ x ∈ asked, one x.2 = 0 := by decide
  exact this _ hk
section
variable {J Z : Nat → Nat → Bool} {s : Nat → Bool}
theorem web_counts (S : Lets J Z s) (hz : ∀ a b, a ≠ b → Z a b = false) {n k : Nat} (hk : k ≤ 3 ∨ (n, k) ∈ asked) : conv (WP J (gW s) yes n) (fun L => wsum n L fun w => ind (norm J Z w)) k = one k := by
  rcases hk with hk | hk
  · exact web_low S hz n hk
  · obtain ⟨a, b, c, d, e, f, h, hJ, hs⟩ := all_at web_all hk J s
    have hJ := hJ S.irr S.sym
    rw [one_asked hk, ← of_decide_eq_true h]
    have e1 : WP J (gW s) yes n = WP (tJ a b c) (gW (tS d e f)) yes n := funext fun k => WP_congr (fun x y h1 h2 => hJ x y (by omega) h2) (fun x hx => by unfold gW; rw [hs x hx]) k
    have e2 : (fun L => wsum n L fun w => ind (norm J Z w)) = fun L => wsum n L fun w => ind (norm (tJ a b c) (tZ (tJ a b c) (tS d e f) false) w) := funext fun L => wsum_congr fun w hw => by
      rw [norm_congr hJ (fun x y hx hy => ?_) hw]
      unfold tZ
      by_cases q : x = y
      · rw [if_pos q, q, S.own, hs y hy]
      · rw [if_neg q, hz x y q]; rfl
    rw [e1, e2]
theorem shut_counts (S : Lets J Z s) (hz : ∀ a b, a ≠ b → Z a b = !J a b) {n k : Nat} (hk : k ≤ 3 ∨ (n, k) ∈ asked) : WP J (gS s) yes n k = wsum n k fun w => ind (norm J Z w) := by
  rcases hk with hk | hk
  · exact shut_low S hz n hk
  · obtain ⟨a, b, c, d, e, f, h, hJ, hs⟩ := all_at shut_all hk J s
    have hJ := hJ S.irr S.sym
    rw [WP_congr (j' := tJ a b c) (g' := gS (tS d e f)) (fun x y h1 h2 => hJ x y (by omega) h2) (fun x hx => by unfold gS; rw [hs x hx]) k, of_decide_eq_true h]
    refine wsum_congr fun w hw => ?_
    rw [norm_congr hJ (fun x y hx hy => ?_) hw]
    unfold tZ
    by_cases q : x = y
    · rw [if_pos q, q, S.own, hs y hy]
    · rw [if_neg q, hz x y q, hJ x y hx hy]; rfl
end
end KzM
end
section
set_option Elab.async false
set_option linter.all false
set_option maxRecDepth 100000
set_option maxHeartbeats 4000000
/-! the rests -/
namespace Kz
open PySem PySem.Spec PyProof.Rows L2 KzM
/-- the row f at a place: first words ahead, last words behind -/
def placedF (width behind first last : Nat) (f : Nat → Int) : Nat → Int := fun k => if k % behind = last ∧ k / behind / width = first then f (k / behind % width) else 0
def placedAll (ahead width behind : Nat) (fs : List (Nat → Int)) : List (Nat → Int) := (List.range ahead).flatMap fun first => fs.flatMap fun f => (List.range behind).map fun last => placedF width behind first last f
theorem placed_at {w b first last s : Nat} (hs : s < w) (hl : last < b) : ((first * w + s) * b + last) % b = last ∧ ((first * w + s) * b + last) / b = first * w + s ∧ (first * w + s) / w = first ∧ (first * w + s) % w = s := by
  have hb : 0 < b := by omega
  have hw : 0 < w := by omega
  refine ⟨?_, ?_, ?_, ?_⟩
  · rw [Nat.mul_comm, Nat.mul_add_mod, Nat.mod_eq_of_lt hl]
  · rw [Nat.mul_comm, Nat.mul_add_div hb, Nat.div_eq_of_lt hl, Nat.add_zero]
  · rw [Nat.mul_comm, Nat.mul_add_div hw, Nat.div_eq_of_lt hs, Nat.add_zero]
  · rw [Nat.mul_comm, Nat.mul_add_mod, Nat.mod_eq_of_lt hs]
theorem placedF_at {w b first last s : Nat} {f : Nat → Int} (hs : s < w) (hl : last < b) : placedF w b first last f ((first * w + s) * b + last) = f s := by
  obtain ⟨h1, h2, h3, h4⟩ := placed_at (first := first) hs hl
  unfold placedF
  rw [h1, h2, h3, h4, if_pos ⟨rfl, rfl⟩]
theorem placedF_nz {w b first last k : Nat} {f : Nat → Int} (hw : 0 < w) (h : placedF w b first last f k ≠ 0) : ∃ s, s < w ∧ f s ≠ 0 ∧ k = (first * w + s) * b + last := by
  unfold placedF at h
  by_cases c : k % b = last ∧ k / b / w = first
  · rw [if_pos c] at h
    refine ⟨k / b % w, Nat.mod_lt _ hw, h, ?_⟩
    obtain ⟨c1, c2⟩ := c
    have e1 := Nat.div_add_mod k b
    have e2 := Nat.div_add_mod (k / b) w
    rw [← c2, ← c1, Nat.mul_comm (k / b / w) w, e2, Nat.mul_comm (k / b) b, e1]
  · rw [if_neg c] at h
    exact absurd rfl h
theorem placed_lt {a w b first last s : Nat} (hf : first < a) (hs : s < w) (hl : last < b) : (first * w + s) * b + last < a * w * b := by
  have h1 : first * w + s < a * w := by
    have : (first + 1) * w ≤ a * w := Nat.mul_le_mul_right w hf
    rw [Nat.add_mul, Nat.one_mul] at this
    omega
  have : (first * w + s + 1) * b ≤ a * w * b := Nat.mul_le_mul_right b h1
  rw [Nat.add_mul, Nat.one_mul] at this
  omega
theorem placed_ok {p : Int} {a w b first last n : Nat} {f : Nat → Int} (hp : 0 < p) (hw : 0 < w) (hf : first < a) (hl : last < b) (en : a * w * b = n) (r : RowOk p w f) (t : Two f) : RowOk p n (placedF w b first last f) ∧ Two (placedF w b first last f) := by
  refine ⟨⟨fun k => ?_, fun k => ?_, fun k hk => Decidable.byContradiction fun z => ?_⟩, ?_⟩
  · unfold placedF
    split
    · exact r.lo _
    · exact Int.le_refl _
  · unfold placedF
    split
    · exact r.hi _
    · exact hp
  · obtain ⟨s, hs, _, e⟩ := placedF_nz hw z
    have := placed_lt hf hs hl
    omega
  · obtain ⟨x, y, h⟩ := t
    refine ⟨(first * w + x) * b + last, (first * w + y) * b + last, fun k hk => ?_⟩
    obtain ⟨s, hs, nz, e⟩ := placedF_nz hw hk
    rcases h s nz with q | q
    · exact .inl (by rw [e, q])
    · exact .inr (by rw [e, q])
/-- dict([(.., ..) for k in d]) -/
theorem dict_read {K : PySem.W.Frag} {H : Hp} {d : Addr} {kd : List (Key × V)} {f g : Nat → Int} {κ : Nat → Nat} {td : TE} {gn : TG} {te : TE} {vs : List Nat} {σ : L2.St} {Q : VK} (htd : ∀ H R, R (V.ref d) H → td σ H R) (hd : H d = some (.dK kd)) (sp : SpK kd f) (hlen : kd.length < sizeLine)
    (inj : ∀ a b, f a ≠ 0 → f b ≠ 0 → κ a = κ b → a = b) (gnz : ∀ k, f k ≠ 0 → g (κ k) ≠ 0) (gall : ∀ j, g j ≠ 0 → ∃ k, f k ≠ 0 ∧ j = κ k)
    (step : ∀ (k : Nat) od H' (C : VK), f k ≠ 0 → Same (upd H d (.frz od (.dK kd))) H' → (∀ H4 t, Same H' H4 → H' t = none → H4 t = some (.tup [.int (κ k : Nat), .int (g (κ k))]) → C (.ref t) H4) → gn (.int (k : Nat)) (wipe σ vs) H' fun σ2 H2 => wipe σ2 vs = wipe σ vs ∧ te σ2 H2 C)
    (done : ∀ H6 d2, Same H H6 → H d2 = none → SpR H6 d2 g → Q (.ref d2) H6) :
    tCB (fun xs H Q => ∃ (a : Addr) (ps : List Addr) (kvs : List (Key × V)), xs = [.ref a] ∧ SqL K H a (ps.map V.ref) ∧ Paired (fun p kv => SqT K H p [kV kv.1, kv.2]) ps kvs ∧ ∀ p, H p = none → Q (.ref p) (upd H p (.dK (mergeK [] kvs)))) (tCons (tLockE (tLc (iKeys td) gn tYes te vs)) tNil) σ H Q := by
  refine ⟨d, .dK kd, hd, True.intro, fun od => htd _ _ ⟨d, od, rfl, .inl ⟨kd, upd_same, ?_⟩⟩⟩
  refine lc_walk wk_keys (fun _ => true) (fun D i y H => ∃ T k, kd[i]? = some (kN k, V.int (f k)) ∧ y = V.ref T ∧ T ≠ D ∧ T ≠ d ∧ H T = some (.tup [.int (κ k : Nat), .int (g (κ k))])) (fun D i y H1 H2 b ⟨T, k, e0, e, n, nd, h⟩ => ⟨T, k, e0, e, n, nd, b _ _ n h⟩) hlen upd_same
    (fun DD i x H' C N hi it s6 hDD ac kC kN' => ?_) fun DD H' ys s6 hDD e6 r6 => ?_
  · obtain ⟨key, v, hkv, rfl⟩ := it
    obtain ⟨k, ekv, nz⟩ := sp.key _ (List.mem_of_getElem? hkv)
    obtain ⟨rfl, rfl⟩ := Prod.mk.inj ekv
    have hd6 : H' d = some (.frz od (.dK kd)) := s6 _ _ upd_same
    obtain ⟨acc, hacc⟩ := ac
    exact step k od H' C nz s6 fun H4 t s4 ht et => kC _ _ rfl s4 ⟨t, k, hkv, rfl, ne_of_none' hacc ht, ne_of_none' hd6 ht, et⟩
  · have hd6 : H' d = some (.frz od (.dK kd)) := s6 _ _ upd_same
    refine ⟨hd6, ?_⟩
    have s7 : Same H (upd H' d (.dK kd)) := fun b o hb => by
      by_cases e : b = d
      · rw [e, upd_same]
        rw [e, hd] at hb
        exact hb
      · rw [upd_ne e]
        exact s6 _ _ (by rw [upd_ne e]; exact hb)
    have dDD : d ≠ DD := ne_of_none upd_same hDD
    rw [List.filter_eq_self.mpr fun _ _ => rfl] at r6
    have lks : ((keysTo kd kd.length).map fun z => κ z.toNat).length = ys.length := by
      rw [List.length_map, keysI_len sp, ← paired_len r6, List.length_range]
    have kat : ∀ {i k : Nat}, kd[i]? = some (kN k, V.int (f k)) → ((keysTo kd kd.length).map fun z => κ z.toNat)[i]? = some (κ k) := fun {i k} h => by
      have e1 : (kd.map (·.1))[i]? = some (kN k) := by rw [List.getElem?_map, h]; rfl
      rw [keysI sp, List.getElem?_map] at e1
      rw [List.getElem?_map]
      cases e2 : (keysTo kd kd.length)[i]? with
      | none => rw [e2] at e1; cases e1
      | some z =>
        rw [e2] at e1
        have : z = (k : Int) := Sum.inl.inj (Option.some.inj e1)
        rw [this]
        rfl
    have pr : Paired (fun k y => ∃ T, y = V.ref T ∧ T ≠ DD ∧ (upd H' d (.dK kd)) T = some (.tup [.int (k : Nat), .int (g k)])) ((keysTo kd kd.length).map fun z => κ z.toNat) ys :=
      paired_mk lks fun i k y h1 h2 => by
        have hi : i < kd.length := by
          have := (List.getElem?_eq_some_iff.mp h1).1
          rw [List.length_map, keysI_len sp] at this
          exact this
        obtain ⟨T, k2, e0, e1, n1, n2, e3⟩ := paired_idx r6 (a := i) (by rw [List.getElem?_range hi]) h2
        have : k = κ k2 := Option.some.inj (h1.symm.trans (kat e0))
        rw [this]
        exact ⟨T, e1, n1, by rw [upd_ne n2]; exact e3⟩
    have zk : ∀ {z : Int}, z ∈ keysTo kd kd.length → ∃ k : Nat, z = k ∧ f k ≠ 0 := fun {z} hz => by
      obtain ⟨j, v, _, ej⟩ := keysTo_mem hz
      obtain ⟨k2, e2, nz⟩ := sp.key _ (List.mem_of_getElem? ej)
      exact ⟨k2, Sum.inl.inj (congrArg Prod.fst e2), nz⟩
    have ndk : ((keysTo kd kd.length).map fun z => κ z.toNat).Nodup := by
      have h1 : ((keysTo kd kd.length).map Sum.inl : List Key).Nodup := by
        rw [← keysI sp]
        exact sp.nd
      have h2 : (keysTo kd kd.length).Nodup := List.Pairwise.of_map Sum.inl (fun a b h q => h (congrArg Sum.inl q)) h1
      refine List.pairwise_map.mpr (List.Pairwise.imp_of_mem (fun {a b} ha hb h q => ?_) h2)
      obtain ⟨ka, ea, za⟩ := zk ha
      obtain ⟨kb, eb, zb⟩ := zk hb
      have := inj ka kb za zb (by rw [ea, eb] at q; exact q)
      omega
    have gnz' : ∀ k ∈ (keysTo kd kd.length).map fun z => κ z.toNat, g k ≠ 0 := fun k hk => by
      obtain ⟨z, hz, e⟩ := List.mem_map.mp hk
      obtain ⟨ka, ea, za⟩ := zk hz
      rw [← e, ea]
      exact gnz ka za
    have gall' : ∀ k, g k ≠ 0 → k ∈ (keysTo kd kd.length).map fun z => κ z.toNat := fun k hk => by
      obtain ⟨j, hj, e⟩ := gall k hk
      exact List.mem_map.mpr ⟨j, (keysTo_all sp j).mpr hj, by rw [e]; rfl⟩
    obtain ⟨ps, rfl, r2⟩ := pairs_dict (K := K) ndk gnz' pr
    refine ⟨DD, ps, _, rfl, SqL.of (by rw [upd_ne dDD.symm]; exact e6), r2, fun d2 hd2 => ?_⟩
    exact done _ d2 (s7.trans (Same.new hd2)) (s7.free hd2) ⟨_, upd_same, pairs_spk ndk gnz' gall'⟩
theorem found_put {H H' : Hp} {d e : Addr} {ds : List Addr} {rows : List (Nat → Int)} {f : Nat → Int} (hd : H d = some (.lst (ds.map V.ref))) (r : Paired (fun e f => SpR H e f ∧ e ≠ d) ds rows) (s : Same H H') (sp : SpR H' e f) (he : H e = none) :
    (upd H' d (.lst ((ds.map V.ref) ++ [V.ref e]))) d = some (.lst ((ds ++ [e]).map V.ref)) ∧ Paired (fun e' f' => SpR (upd H' d (.lst ((ds.map V.ref) ++ [V.ref e]))) e' f' ∧ e' ≠ d) (ds ++ [e]) (rows ++ [f]) := by
  refine ⟨by rw [upd_same, List.map_append]; rfl, paired_app (paired_imp r fun a b ⟨x, n⟩ => ⟨(x.mono s).upd n, n⟩) ?_⟩
  have n : e ≠ d := ne_of_none' hd he
  exact ⟨sp.upd n, n⟩
theorem count_lt {A l b i j m : Nat} (hi : i < A) (hj : j < l) (hm : m < b) : i * (l * b) + j * b + m < A * (l * b) := by
  have h1 : j * b + m < l * b := by
    have : (j + 1) * b ≤ l * b := Nat.mul_le_mul_right b hj
    rw [Nat.add_mul, Nat.one_mul] at this
    omega
  have : (i + 1) * (l * b) ≤ A * (l * b) := Nat.mul_le_mul_right _ hi
  rw [Nat.add_mul, Nat.one_mul] at this
  omega
def spPlaced (K : PySem.W.Frag) (C : Addr) : Sp := fun vs H Q _ => ∃ (b : Addr) (p : Int) (n : Nat) (fs : List (Nat → Int)) (L place : Nat), vs = [.ref b, .int (L : Nat), .int (place : Nat)] ∧ BookAt K C H b p n fs ∧ place + 2 ≤ L ∧ L ≤ 6 ∧ n ^ L ≤ 1000 ∧
  ∀ H' d ds, Same H H' → H d = none → H' d = some (.lst (ds.map V.ref)) → Paired (fun e f => SpR H' e f ∧ e ≠ d) ds (placedAll (n ^ place) (n * n) (n ^ (L - place - 2)) fs) → Q (.ref d) H'
section
variable {P : Program} {w : World} {K : PySem.W.Frag} {mg : Str → Option Value} {base : Heap}
abbrev N_placed_few : List Str := ["book", "length", "place", "ahead", "behind", "width", "found", "first", "rule", "sparse", "last", "spot"]
theorem sc_placed_few : FnScope N_placed_few ["book", "length", "place"] (defScope sd_placed_few) := ⟨rfl, rfl, rfl, by decide +kernel, rfl, by decide +kernel, by decide +kernel⟩
theorem f_placed_few {C fI : Addr} (D : DefAt K mg "placed_few" sd_placed_few) (T : Txt K mg) (U : RuT K mg C fI) (f_many_words : FnS P w K mg base CX0 1 "many_words" ["letters", "length"] spManyWords) (f_few : FnS P w K mg base CX0 1 "few" ["prime", "row"] (spFew K)) :
    FnS P w K mg base CX0 2 "placed_few" ["book", "length", "place"] (spPlaced K C) :=
  mkFn D sc_placed_few (fun _ _ _ _ _ _ us hl => match us, hl with | [_, _, _], _ => rfl) (fun vs H Q E ⟨_, _, _, _, _, _, e, _⟩ => by rw [e]; rfl) fun cdv A outer s H vs Q E hr ⟨b, p, n, fs, L, place, e, hb, hpl, hL, hp1, q⟩ => by
  subst e
  obtain ⟨dx, rt, fl, ts, eb, l1, l2, l3, hrt, hts, hp, h1, h5, hlf, hok⟩ := id hb
  have hp2 := (fields_pos hp).1
  have npl : ∀ m, m ≤ L → n ^ m ≤ 1000 := fun m hm => Nat.le_trans (Nat.pow_le_pow_right h1 hm) hp1
  refine ⟨_, (pss_cons (ps_set (i := 3) sc_placed_few.nd rfl (.inl rfl) (pe_call f_many_words.ok (hr.mono (by decide)) rfl f_many_words.g f_many_words.kp f_many_words.b .nil pass0 (pa_cons (pe_fld (pv 0) rfl) (pa_cons (pv 2) pa_nil))))
      (pss_cons (ps_set (i := 4) sc_placed_few.nd rfl (.inr rfl) (pe_call f_many_words.ok (hr.mono (by decide)) rfl f_many_words.g f_many_words.kp f_many_words.b .nil pass0 (pa_cons (pe_fld (pv 0) rfl) (pa_cons (pe_op op_sub (pe_op op_sub (pv 1) (pv 2)) pe_int) pa_nil))))
      (pss_cons (ps_asg (pe_tup (pa_cons (pe_op op_mul (pe_fld (pv 0) rfl) (pe_fld (pv 0) rfl)) (pa_cons (pe_lst pa_nil) pa_nil))) (pg_tup rfl (pgs_cons (pg_name (i := 5) sc_placed_few.nd rfl (.inr rfl)) (pgs_cons (pg_name (i := 6) sc_placed_few.nd rfl (.inl rfl)) pgs_nil))))
      (pss_cons (ps_for (passes_of rfl) rfl (pi_range1 rfl T.range_ (pa_cons (pv 3) pa_nil)) (pg_name (i := 7) sc_placed_few.nd rfl (.inr rfl)) (pss_one (ps_for (passes_of rfl) rfl (pi_tup (pe_fld (pv 0) rfl)) (pg_name (i := 8) sc_placed_few.nd rfl (.inl rfl)) (pss_cons (ps_set (i := 9) sc_placed_few.nd rfl (.inr rfl) (pe_call f_few.ok (hr.mono (by decide)) rfl f_few.g f_few.kp f_few.b .nil pass0 (pa_cons (pe_fld (pv 0) rfl) (pa_cons (pv 8) pa_nil))))
      (pss_one (ps_for (passes_of rfl) rfl (pi_range1 rfl T.range_ (pa_cons (pv 4) pa_nil)) (pg_name (i := 10) sc_placed_few.nd rfl (.inr rfl)) (pss_one (ps_expr (pe_bm PySem.F.plainAttrs_list PySem.F.slot_list_append PySem.F.type_list_append mt_append (pv 6) (pa_cons (pe_callTy (call_dictP rfl) (by rfl) T.dict_ bo_dict (pa_cons (pe_lock (pe_lc (own := [("spot", 11)]) (g := (gName 11)) rfl sc_placed_few.nd (pi_keys (pv 9)) (blkOk_by (N := N_placed_few) (sc := defScope sd_placed_few) (by decide +kernel)) (fun _ _ _ _ _ => (pg_name (i := 11) sc_placed_few.nd rfl (.inl rfl))) (fun _ _ _ _ _ => pts_nil) (fun _ _ _ _ _ => (pe_tup (pa_cons (pe_op op_add (pe_op op_mul (pe_op op_add (pe_op op_mul (pv 7) (pv 5)) (pv 11)) (pv 4)) (pv 10)) (pa_cons (pe_dget (hu_of hr) (pv 9) (pv 11) (fun _ _ => rfl)) pa_nil)))))) pa_nil)) pa_nil))))))))))
      (pss_one (ps_ret (pv 6))))))), ?_⟩
  refine ⟨_, rfl, b, C, dx, fl, _, rfl, eb, U.cl, U.nL, l2, _, rfl, n, place, rfl, h1, npl _ (by omega), by omega, fun H1 s1 => ?_⟩
  refine ⟨_, rfl, b, C, dx, fl, _, rfl, s1 _ _ eb, U.cl, U.nL, l2, _, rfl, _, rfl, _, _, rfl, rfl, _, _, rfl, rfl, n, L - place - 2, ?_, h1, npl _ (by omega), by omega, fun H2 s2 => ?_⟩
  · show [V.int n, V.int ((L : Int) - place - 2)] = _
    rw [show ((L : Int) - place - 2) = ((L - place - 2 : Nat) : Int) by omega]
  have s12 := s1.trans s2
  -- width, found
  refine ⟨_, rfl, b, C, dx, fl, _, rfl, s12 _ _ eb, U.cl, U.nL, l2, _, rfl, b, C, dx, fl, _, rfl, s12 _ _ eb, U.cl, U.nL, l2, _, _, rfl, rfl, .inl ⟨by omega, by omega⟩, Nat.zero_le _, fun d hd => ⟨(by show 2 ≤ sizeLine; decide), fun t ht => ?_⟩⟩
  refine ⟨t, _, rfl, SqT.of upd_same, rfl, _, _, rfl, _, _, rfl, rfl, ?_⟩
  have e0 : ((n : Int) * (n : Int)) = ((n * n : Nat) : Int) := by simp
  have s3 : Same H2 (upd (upd H2 d (.lst [])) t (.tup [.int ((n : Int) * n), .ref d])) := (Same.new hd).trans (Same.new ht)
  have ntd : d ≠ t := ne_of_none upd_same ht
  have hd3 : (upd (upd H2 d (.lst [])) t (.tup [.int ((n : Int) * n), .ref d])) d = some (.lst []) := by rw [upd_ne ntd, upd_same]
  have hdH : H d = none := s12.free hd
  generalize upd (upd H2 d (.lst [])) t (.tup [.int ((n : Int) * n), .ref d]) = H3 at s3 hd3
  have s03 := s12.trans s3
  have hA : n ^ place * n ^ (L - place - 2) ≤ 1000 := by
    rw [← Nat.pow_add]
    exact npl _ (by omega)
  have hB : n ^ (L - place - 2) ≤ 1000 := npl _ (by omega)
  have hA1 : n ^ place ≤ 1000 := npl _ (by omega)
  have eW : n ^ place * (n * n) * n ^ (L - place - 2) = n ^ L := by
    rw [← Nat.pow_two, ← Nat.pow_add, ← Nat.pow_add]
    exact congrArg (n ^ ·) (by omega)
  generalize hbh : n ^ (L - place - 2) = bh at hA hB eW q ⊢
  generalize hah : n ^ place = ah at hA hA1 eW q ⊢
  have tot : ah * (fs.length * bh) ≤ 64000 := by
    have : ah * (fs.length * bh) = (ah * bh) * fs.length := by rw [Nat.mul_comm fs.length bh, Nat.mul_assoc]
    rw [this]
    exact Nat.mul_le_mul hA hlf
  have big : 64000 < sizeLine := by decide
  have w0 : 0 < n * n := Nat.mul_pos h1 h1
  have w25 : n * n ≤ 25 := Nat.mul_le_mul h5 h5
  have htsl : ts.length = fs.length := paired_len hts
  refine ⟨_, rfl, (ah : Nat), rfl, by omega, by omega, ?_⟩
  refine for_walk (wk_range (n := ah)) (fun i σ H' => ∃ (ds : List Addr) (x7 x8 x9 x10 x11 : Option V), σ = [some (.ref b), some (.int (L : Nat)), some (.int (place : Nat)), some (.int (ah : Nat)), some (.int (bh : Nat)), some (.int ((n : Int) * n)), some (.ref d), x7, x8, x9, x10, x11] ∧ Same H H' ∧ H' d = some (.lst (ds.map V.ref)) ∧
      Paired (fun e f => SpR H' e f ∧ e ≠ d) ds (placedAll i (n * n) bh fs) ∧ ds.length = i * (fs.length * bh))
    ⟨[], _, _, _, _, _, rfl, s03, hd3, .nil, by simp⟩ (fun _ _ _ _ _ => True.intro) (fun i x σ H4 H5 hi ⟨ds, x7, x8, x9, x10, x11, eσ, s4, hd4, pr, ln⟩ s5 it => ?_) fun σ H4 ⟨ds, x7, x8, x9, x10, x11, eσ, s4, hd4, pr, ln⟩ => ?_
  · subst eσ it
    have s45 := s4.trans s5
    refine ⟨_, rfl, b, C, dx, fl, _, rfl, s45 _ _ eb, U.cl, U.nR, l3, rt, rfl, ⟨_, s45.seqT hrt⟩, ?_⟩
    refine for_walk wk_tup (fun j σ H' => ∃ (ds : List Addr) (x8 x9 x10 x11 : Option V), σ = [some (.ref b), some (.int (L : Nat)), some (.int (place : Nat)), some (.int (ah : Nat)), some (.int (bh : Nat)), some (.int ((n : Int) * n)), some (.ref d), some (.int (0 + (i : Int))), x8, x9, x10, x11] ∧ Same H H' ∧ H' d = some (.lst (ds.map V.ref)) ∧
        Paired (fun e f => SpR H' e f ∧ e ≠ d) ds (placedAll i (n * n) bh fs ++ (fs.take j).flatMap fun f => (List.range bh).map fun last => placedF (n * n) bh i last f) ∧ ds.length = i * (fs.length * bh) + j * bh)
      ⟨ds, _, _, _, _, rfl, s45, s5 _ _ hd4, (by show Paired _ ds (_ ++ []); rw [List.append_nil]; exact paired_imp pr fun _ _ ⟨x, y⟩ => ⟨x.mono s5, y⟩), by omega⟩ (fun j σ H' hj ⟨_, _, _, _, _, _, s6, _⟩ => s6.seqT hrt) (fun j x σ H6 H7 hj ⟨ds, x8, x9, x10, x11, eσ, s6, hd6, pr6, ln6⟩ s7 it => ?_) fun σ H6 ⟨ds, x8, x9, x10, x11, eσ, s6, hd6, pr6, ln6⟩ => ?_
    · subst eσ
      obtain ⟨r, hr1, ex⟩ : ∃ r, ts[j]? = some r ∧ x = .ref r := by
        have it : (ts.map V.ref)[j]? = some x := it
        rw [List.getElem?_map] at it
        cases e : ts[j]? with
        | none => rw [e] at it; cases it
        | some d => rw [e] at it; exact ⟨d, rfl, (Option.some.inj it).symm⟩
      subst ex
      obtain ⟨f, hfj, rowf⟩ := paired_at2 hts hr1
      obtain ⟨rokf, twof⟩ := hok f (List.mem_of_getElem? hfj)
      have s67 := s6.trans s7
      have erow : (List.range (n * n)).map (fun k => V.int (f k)) = ((List.range (n * n)).map f).map V.int := by rw [List.map_map]; rfl
      have hj2 : j < fs.length := (List.getElem?_eq_some_iff.mp hfj).1
      refine ⟨_, rfl, b, C, dx, fl, _, rfl, s67 _ _ eb, U.cl, U.nP, l1, _, rfl, p, r, (List.range (n * n)).map f, rfl, .inr (by rw [← erow]; exact s67.seqT rowf), by omega, by rw [List.length_map, List.length_range]; omega, fun H8 d2 s8 hd2 sp2 => ?_⟩
      have sp2 : SpR H8 d2 f := by
        obtain ⟨kk, e, k⟩ := sp2
        refine ⟨kk, e, k.congr fun k => ?_⟩
        rw [List.getD_eq_getElem?_getD, List.getElem?_map]
        by_cases hk : k < n * n
        · rw [List.getElem?_range hk]
          exact rokf.mod k
        · rw [List.getElem?_eq_none (by rw [List.length_range]; omega), rokf.out k (by omega)]
          exact Int.zero_emod p
      have s68 := s67.trans s8
      refine ⟨_, rfl, (bh : Nat), rfl, by omega, by omega, ?_⟩
      refine for_walk (wk_range (n := bh)) (fun m σ H' => ∃ (ds : List Addr) (x10 x11 : Option V), σ = [some (.ref b), some (.int (L : Nat)), some (.int (place : Nat)), some (.int (ah : Nat)), some (.int (bh : Nat)), some (.int ((n : Int) * n)), some (.ref d), some (.int (0 + (i : Int))), some (.ref r), some (.ref d2), x10, x11] ∧ Same H H' ∧ SpR H' d2 f ∧ d2 ≠ d ∧ H' d = some (.lst (ds.map V.ref)) ∧
          Paired (fun e f => SpR H' e f ∧ e ≠ d) ds ((placedAll i (n * n) bh fs ++ (fs.take j).flatMap fun f => (List.range bh).map fun last => placedF (n * n) bh i last f) ++ (List.range m).map fun last => placedF (n * n) bh i last f) ∧ ds.length = i * (fs.length * bh) + j * bh + m)
        ⟨ds, _, _, rfl, s68, sp2, ne_of_none' (s7 _ _ hd6) hd2, s8 _ _ (s7 _ _ hd6), (by show Paired _ ds (_ ++ []); rw [List.append_nil]; exact paired_imp pr6 fun _ _ ⟨x, y⟩ => ⟨x.mono (s7.trans s8), y⟩), by omega⟩ (fun _ _ _ _ _ => True.intro) (fun m x σ H9 H10 hm ⟨ds9, x10, x11, eσ, s9, sp9, nd9, hd9, pr9, ln9⟩ s10 it => ?_) fun σ H9 ⟨ds9, x10, x11, eσ, s9, sp9, nd9, hd9, pr9, ln9⟩ => ?_
      · subst eσ it
        obtain ⟨kd, hkd, spk⟩ := sp9.mono s10
        have hd10 := s10 _ _ hd9
        obtain ⟨a2, b2, tab⟩ := id twof
        have lk : kd.length ≤ 2 := spk.len (l := [a2, b2]) fun k hk => by rcases tab k hk with e | e <;> simp [e]
        refine ⟨_, rfl, .inl ⟨rfl, _, SqL.of hd10⟩, ?_⟩
        have sup : ∀ k, f k ≠ 0 → k < n * n := fun k hk => Decidable.byContradiction fun z => hk (rokf.out k (by omega))
        refine cons1 (dict_read (κ := fun k => (i * (n * n) + k) * bh + m) (g := placedF (n * n) bh i m f) (fun H R h => ⟨_, rfl, h⟩) hkd spk (by omega) (fun a b ha hb e => ?_) (fun k hk => by rw [placedF_at (sup k hk) hm]; exact hk) (fun j hj => ?_) (fun k od H' C hk s11 kC => ?_) fun H11 d3 s11 hd3 sp3 => ?_)
        · have q1 := placed_at (first := i) (sup a ha) hm
          have q2 := placed_at (first := i) (sup b hb) hm
          have e : (i * (n * n) + a) * bh + m = (i * (n * n) + b) * bh + m := e
          rw [← q1.2.2.2, ← q2.2.2.2, ← q1.2.1, ← q2.2.1, e]
        · obtain ⟨s, hs, nz, e⟩ := placedF_nz w0 hj
          exact ⟨s, nz, e⟩
        · have hd11 := s11 _ _ upd_same
          have ek : ((((0 + (i : Int)) * ((n : Int) * n) + (k : Nat)) * (bh : Nat) + (0 + (m : Int)))) = (((i * (n * n) + k) * bh + m : Nat) : Int) := by simp
          have bnd : (i * (n * n) + k) * bh + m < 1000 := by
            have := placed_lt (a := ah) hi (sup k hk) hm
            omega
          refine ⟨rfl, _, rfl, _, rfl, _, _, rfl, rfl, .inl ⟨by omega, by omega⟩, _, rfl, _, _, rfl, rfl, _, rfl, _, _, rfl, rfl, .inr ⟨by omega, by omega⟩, _, rfl, _, _, rfl, rfl, _, rfl, _, rfl, d2, _, rfl, .inl ⟨kd, kN k, .inr ⟨od, hd11⟩, rfl, (spk.val_is hk).symm⟩, (by show 2 ≤ sizeLine; decide), fun t ht => ?_⟩
          refine kC _ t (Same.new ht) ht ?_
          rw [upd_same, placedF_at (sup k hk) hm]
          show some (HO.tup [V.int _, V.int (f k)]) = _
          rw [ek]
        · obtain ⟨f1, f2⟩ := found_put (s10 _ _ hd9) (paired_imp pr9 fun _ _ ⟨x, y⟩ => ⟨x.mono s10, y⟩) s11 sp3 hd3
          have lt := count_lt hi hj2 hm
          refine ⟨d, _, _, rfl, rfl, s11 _ _ hd10, by rw [List.length_map]; omega, ds9 ++ [d3], _, _, rfl, (s9.trans (s10.trans s11)).put hdH, ((sp9.mono (s10.trans s11)).upd nd9), nd9, f1, ?_, by rw [List.length_append, List.length_singleton]; omega⟩
          rw [List.range_succ, List.map_append, ← List.append_assoc]
          exact f2
      · subst eσ
        refine ⟨ds9, _, _, _, _, rfl, s9, hd9, ?_, by rw [ln9, Nat.add_mul, Nat.one_mul]; omega⟩
        have e : (fs.take (j + 1)).flatMap (fun f => (List.range bh).map fun last => placedF (n * n) bh i last f) = (fs.take j).flatMap (fun f => (List.range bh).map fun last => placedF (n * n) bh i last f) ++ (List.range bh).map fun last => placedF (n * n) bh i last f := by
          rw [List.take_add_one, hfj, List.flatMap_append]
          simp
        rw [e, ← List.append_assoc]
        exact pr9
    · subst eσ
      have lt : (ts.map V.ref).length = fs.length := by rw [List.length_map]; exact htsl
      rw [lt, List.take_length] at pr6
      rw [lt] at ln6
      refine ⟨ds, _, _, _, _, _, rfl, s6, hd6, ?_, by rw [ln6, Nat.add_mul, Nat.one_mul]⟩
      have e : placedAll (i + 1) (n * n) bh fs = placedAll i (n * n) bh fs ++ fs.flatMap fun f => (List.range bh).map fun last => placedF (n * n) bh i last f := by
        unfold placedAll
        rw [List.range_succ, List.flatMap_append]
        simp
      rw [e]
      exact pr6
  · subst eσ
    exact ⟨_, rfl, q _ d ds s4 hdH hd4 pr⟩
end
end Kz
end
section
set_option Elab.async false
set_option linter.all false
set_option maxRecDepth 100000
set_option maxHeartbeats 4000000
/-! the rests, 2 -/
namespace Kz
open PySem PySem.Spec PyProof.Rows L2 KzM
def rowsTo (n L m : Nat) (fs : List (Nat → Int)) : List (Nat → Int) := (List.range m).flatMap fun place => placedAll (n ^ place) (n * n) (n ^ (L - place - 2)) fs
abbrev allRows (n L : Nat) (fs : List (Nat → Int)) : List (Nat → Int) := rowsTo n L (L - 1) fs
def NoHeads (p : Int) (n L : Nat) (fs : List (Nat → Int)) (Lh : List Head) : Prop := Red p (n ^ L) Lh ∧ ∀ u, Ann p (n ^ L) Lh u ↔ ∀ f ∈ allRows n L fs, Van p (n ^ L) u f
def BookL (K : PySem.W.Frag) (C : Addr) (H : Hp) (vs : List V) (p : Int) (n : Nat) (fs : List (Nat → Int)) (L : Nat) : Prop := ∃ b, vs = [.ref b, .int (L : Nat)] ∧ BookAt K C H b p n fs ∧ L ≤ 6 ∧ n ^ L ≤ 1000
def spNothing (K : PySem.W.Frag) (C : Addr) : Sp := fun vs H Q _ => ∃ p n fs L, BookL K C H vs p n fs L ∧ ∀ H' D Lh, Same H H' → H D = none → HdR H' D Lh → NoHeads p n L fs Lh → Q (.ref D) H'
def spNeedLength (K : PySem.W.Frag) (C : Addr) : Sp := fun vs H Q _ => ∃ p n fs L, BookL K C H vs p n fs L ∧ ∀ H', Same H H' → Q (.int ((n ^ L : Nat) : Int)) H'
def restL (n L : Nat) (Lh : List Head) : List Nat := (List.range (n ^ L)).filter fun s => decide (s ∉ Lh.map (·.1))
def spRest (K : PySem.W.Frag) (C : Addr) : Sp := fun vs H Q _ => ∃ p n fs L, BookL K C H vs p n fs L ∧ ∀ H' d Lh, Same H H' → H d = none → H' d = some (.lst ((restL n L Lh).map fun s => V.int (s : Nat))) → NoHeads p n L fs Lh → Q (.ref d) H'
def spCount (K : PySem.W.Frag) (C : Addr) : Sp := fun vs H Q _ => ∃ p n fs L, BookL K C H vs p n fs L ∧ ∀ H' Lh, Same H H' → NoHeads p n L fs Lh → Q (.int ((restL n L Lh).length : Nat)) H'
theorem flat_len {α β : Type} (G : α → List β) (c : Nat) : ∀ l : List α, (∀ a ∈ l, (G a).length = c) → (l.flatMap G).length = l.length * c
  | [], _ => by simp
  | a :: l, h => by
    rw [List.flatMap_cons, List.length_append, h a List.mem_cons_self, flat_len G c l fun x hx => h x (List.mem_cons_of_mem _ hx), List.length_cons, Nat.add_mul]
    omega
theorem placedAll_len (a w b : Nat) (fs : List (Nat → Int)) : (placedAll a w b fs).length = a * (fs.length * b) := by
  unfold placedAll
  rw [flat_len _ (fs.length * b) _ fun x _ => flat_len _ b _ fun f _ => by rw [List.length_map, List.length_range], List.length_range]
section
variable {P : Program} {w : World} {K : PySem.W.Frag} {mg : Str → Option Value} {base : Heap}
abbrev N_nothing_heads : List Str := ["book", "length", "some", "place"]
theorem sc_nothing_heads : FnScope N_nothing_heads ["book", "length"] (defScope sd_nothing_heads) := ⟨rfl, rfl, rfl, by decide +kernel, rfl, by decide +kernel, by decide +kernel⟩
theorem f_nothing_heads {C fI : Addr} (D : DefAt K mg "nothing_heads" sd_nothing_heads) (T : Txt K mg) (U : RuT K mg C fI) (f_placed_few : FnS P w K mg base CX0 2 "placed_few" ["book", "length", "place"] (spPlaced K C)) (f_heads_of : FnS P w K mg base CX0 3 "heads_of" ["prime", "rows"] (spHeadsOf K)) :
    FnS P w K mg base CX0 4 "nothing_heads" ["book", "length"] (spNothing K C) :=
  mkFn D sc_nothing_heads (fun _ _ _ _ _ _ us hl => match us, hl with | [_, _], _ => rfl) (fun vs H Q E ⟨_, _, _, _, ⟨_, e, _⟩, _⟩ => by rw [e]; rfl) fun cdv A outer s H vs Q E hr ⟨p, n, fs, L, ⟨b, e, hb, hL, hp1⟩, q⟩ => by
  subst e
  obtain ⟨dx, rt, fl, ts, eb, l1, l2, l3, hrt, hts, hp, h1, h5, hlf, hok⟩ := id hb
  have hp2 := (fields_pos hp).1
  have npl : ∀ m, m ≤ L → n ^ m ≤ 1000 := fun m hm => Nat.le_trans (Nat.pow_le_pow_right h1 hm) hp1
  refine ⟨_, (pss_cons (ps_set (i := 2) sc_nothing_heads.nd rfl (.inl rfl) (pe_lst pa_nil))
      (pss_cons (ps_for (passes_of rfl) rfl (pi_range1 rfl T.range_ (pa_cons (pe_op op_sub (pv 1) pe_int) pa_nil)) (pg_name (i := 3) sc_nothing_heads.nd rfl (.inl rfl)) (pss_one (ps_set (i := 2) sc_nothing_heads.nd rfl (.inl rfl) (pe_op op_cat (pv 2) (pe_call f_placed_few.ok (hr.mono (by decide)) rfl f_placed_few.g f_placed_few.kp f_placed_few.b .nil pass0 (pa_cons (pv 0) (pa_cons (pv 1) (pa_cons (pv 3) pa_nil))))))))
      (pss_one (ps_ret (pe_call f_heads_of.ok (hr.mono (by decide)) rfl f_heads_of.g f_heads_of.kp f_heads_of.b .nil pass0 (pa_cons (pe_fld (pv 0) rfl) (pa_cons (pv 2) pa_nil))))))), ?_⟩
  refine ⟨Nat.zero_le _, fun o ho => ?_⟩
  refine ⟨_, rfl, _, _, rfl, rfl, (L : Int) - 1, rfl, by omega, by omega, ?_⟩
  have eL : ((L : Int) - 1).toNat = L - 1 := by omega
  rw [eL]
  refine for_walk (wk_range (n := L - 1)) (fun i σ H' => ∃ (d : Addr) (ds : List Addr) (x3 : Option V), σ = [some (.ref b), some (.int (L : Nat)), some (.ref d), x3] ∧ Same H H' ∧ H d = none ∧ H' d = some (.lst (ds.map V.ref)) ∧ Paired (fun e f => SpR H' e f) ds (rowsTo n L i fs) ∧ ds.length ≤ i * 64000)
    ⟨o, [], _, rfl, Same.new ho, ho, upd_same, .nil, Nat.zero_le _⟩ (fun _ _ _ _ _ => True.intro) (fun i x σ H1 H2 hi ⟨d, ds, x3, eσ, s1, hd, hd1, pr, ln⟩ s2 it => ?_) fun σ H1 ⟨d, ds, x3, eσ, s1, hd, hd1, pr, ln⟩ => ?_
  · subst eσ it
    have s12 := s1.trans s2
    refine ⟨_, rfl, _, rfl, _, rfl, _, rfl, b, p, n, fs, L, i, ?_, hb.mono s12, by omega, hL, hp1, fun H3 d3 ds3 s3 hd3 e3 pr3 => ?_⟩
    · show [V.ref b, V.int L, V.int (0 + (i : Int))] = _
      rw [show (0 + (i : Int)) = (i : Int) by omega]
    have l3 : ds3.length ≤ 64000 := by
      rw [paired_len pr3, placedAll_len]
      have : n ^ i * (fs.length * n ^ (L - i - 2)) = (n ^ i * n ^ (L - i - 2)) * fs.length := by rw [Nat.mul_comm fs.length, Nat.mul_assoc]
      rw [this, ← Nat.pow_add]
      exact Nat.mul_le_mul (npl _ (by omega)) hlf
    have big : 400000 < sizeLine := by decide
    refine ⟨d, d3, _, _, rfl, rfl, s3 _ _ (s2 _ _ hd1), e3, by rw [List.length_map, List.length_map]; omega, fun q4 hq4 => ?_⟩
    have s4 := Same.new (o := .lst (ds.map V.ref ++ ds3.map V.ref)) hq4
    refine ⟨q4, ds ++ ds3, _, rfl, (s12.trans s3).trans s4, (s12.trans s3).free hq4, by rw [upd_same, List.map_append], ?_, by rw [List.length_append, Nat.add_mul]; omega⟩
    have e : rowsTo n L (i + 1) fs = rowsTo n L i fs ++ placedAll (n ^ i) (n * n) (n ^ (L - i - 2)) fs := by
      unfold rowsTo
      rw [List.range_succ, List.flatMap_append, List.flatMap_singleton]
    rw [e]
    exact paired_cat (paired_imp pr fun _ _ x => x.mono ((s2.trans s3).trans s4)) (paired_imp pr3 fun _ _ x => x.1.mono s4)
  · subst eσ
    refine ⟨_, rfl, b, C, dx, fl, _, rfl, s1 _ _ eb, U.cl, U.nP, l1, _, rfl, p, d, n ^ L, ds, _, rfl, SqL.of hd1, pr, hp, hp1, fun f hf => ?_, fun H2 D2 Lh s2 hD2 hdr R tl ann => q _ D2 Lh (s1.trans s2) (s1.free hD2) hdr ⟨R, ann⟩⟩
    obtain ⟨place, hpl, hf2⟩ := List.mem_flatMap.mp hf
    have hpl : place < L - 1 := List.mem_range.mp hpl
    obtain ⟨first, hfi, hf3⟩ := List.mem_flatMap.mp hf2
    obtain ⟨g, hg, hf4⟩ := List.mem_flatMap.mp hf3
    obtain ⟨last, hla, rfl⟩ := List.mem_map.mp hf4
    obtain ⟨r, t⟩ := hok g hg
    refine placed_ok (by omega) (Nat.mul_pos h1 h1) (List.mem_range.mp hfi) (List.mem_range.mp hla) ?_ r t
    rw [← Nat.pow_two, ← Nat.pow_add, ← Nat.pow_add]
    exact congrArg (n ^ ·) (by omega)
abbrev N_need_length : List Str := ["book", "length"]
theorem sc_need_length : FnScope N_need_length ["book", "length"] (defScope sd_need_length) := ⟨rfl, rfl, rfl, by decide +kernel, rfl, by decide +kernel, by decide +kernel⟩
theorem f_need_length {C fI : Addr} (D : DefAt K mg "need_length" sd_need_length) (T : Txt K mg) (U : RuT K mg C fI) (f_need_book : FnS P w K mg base CX0 1 "need_book" ["thing"] (spNeedBook K C)) (f_need_from : FnS P w K mg base CX0 2 "need_from" ["number", "part"] spNeedFrom) (f_many_words : FnS P w K mg base CX0 1 "many_words" ["letters", "length"] spManyWords) :
    FnS P w K mg base CX0 3 "need_length" ["book", "length"] (spNeedLength K C) :=
  mkFn D sc_need_length (fun _ _ _ _ _ _ us hl => match us, hl with | [_, _], _ => rfl) (fun vs H Q E ⟨_, _, _, _, ⟨_, e, _⟩, _⟩ => by rw [e]; rfl) fun cdv A outer s H vs Q E hr ⟨p, n, fs, L, ⟨b, e, hb, hL, hp1⟩, q⟩ => by
  subst e
  obtain ⟨dx, rt, fl, ts, eb, l1, l2, l3, hrt, hts, hp, h1, h5, hlf, hok⟩ := id hb
  refine ⟨_, (pss_cons (ps_expr (pe_call f_need_book.ok (hr.mono (by decide)) rfl f_need_book.g f_need_book.kp f_need_book.b .nil pass0 (pa_cons (pv 0) pa_nil)))
      (pss_cons (ps_expr (pe_call f_need_from.ok (hr.mono (by decide)) rfl f_need_from.g f_need_from.kp f_need_from.b .nil pass0 (pa_cons (pv 1) (pa_cons pe_str pa_nil))))
      (pss_one (ps_ret (pe_call f_many_words.ok (hr.mono (by decide)) rfl f_many_words.g f_many_words.kp f_many_words.b .nil pass0 (pa_cons (pe_fld (pv 0) rfl) (pa_cons (pv 1) pa_nil))))))), ?_⟩
  exact ⟨_, rfl, b, p, n, fs, rfl, hb, _, rfl, L, _, rfl, by omega, _, rfl, b, C, dx, fl, _, rfl, eb, U.cl, U.nL, l2, _, rfl, n, L, rfl, h1, hp1, by omega, fun H' s1 => q H' s1⟩
abbrev N_rest_spots : List Str := ["book", "length", "heads", "spot"]
theorem sc_rest_spots : FnScope N_rest_spots ["book", "length"] (defScope sd_rest_spots) := ⟨rfl, rfl, rfl, by decide +kernel, rfl, by decide +kernel, by decide +kernel⟩
theorem f_rest_spots {C fI : Addr} (D : DefAt K mg "rest_spots" sd_rest_spots) (T : Txt K mg) (U : RuT K mg C fI) (f_nothing_heads : FnS P w K mg base CX0 4 "nothing_heads" ["book", "length"] (spNothing K C)) (f_many_words : FnS P w K mg base CX0 1 "many_words" ["letters", "length"] spManyWords) :
    FnS P w K mg base CX0 5 "rest_spots" ["book", "length"] (spRest K C) :=
  mkFn D sc_rest_spots (fun _ _ _ _ _ _ us hl => match us, hl with | [_, _], _ => rfl) (fun vs H Q E ⟨_, _, _, _, ⟨_, e, _⟩, _⟩ => by rw [e]; rfl) fun cdv A outer s H vs Q E hr ⟨p, n, fs, L, ⟨b, e, hb, hL, hp1⟩, q⟩ => by
  subst e
  obtain ⟨dx, rt, fl, ts, eb, l1, l2, l3, hrt, hts, hp, h1, h5, hlf, hok⟩ := id hb
  have big : 10000 < sizeLine := by decide
  refine ⟨_, (pss_cons (ps_set (i := 2) sc_rest_spots.nd rfl (.inr rfl) (pe_call f_nothing_heads.ok (hr.mono (by decide)) rfl f_nothing_heads.g f_nothing_heads.kp f_nothing_heads.b .nil pass0 (pa_cons (pv 0) (pa_cons (pv 1) pa_nil))))
      (pss_one (ps_ret (pe_lc (own := [("spot", 3)]) (g := (gName 3)) rfl sc_rest_spots.nd (pi_range1 rfl T.range_ (pa_cons (pe_call f_many_words.ok (hr.mono (by decide)) rfl f_many_words.g f_many_words.kp f_many_words.b .nil pass0 (pa_cons (pe_fld (pv 0) rfl) (pa_cons (pv 1) pa_nil))) pa_nil)) (blkOk_by (N := N_rest_spots) (sc := defScope sd_rest_spots) (by decide +kernel)) (fun _ _ _ _ _ => (pg_name (i := 3) sc_rest_spots.nd rfl (.inl rfl))) (fun _ _ _ _ _ => (pts_one (pt_cmp (pc_dnotin (hu_of hr) (pv 3) (pv 2)) rfl))) (fun _ _ _ _ _ => (pv 3)))))), ?_⟩
  refine ⟨_, rfl, _, rfl, p, n, fs, L, ⟨b, rfl, hb, hL, hp1⟩, fun H1 D1 Lh s1 hD1 hdr nh => ?_⟩
  refine ⟨_, rfl, b, C, dx, fl, _, rfl, s1 _ _ eb, U.cl, U.nL, l2, _, rfl, n, L, rfl, h1, hp1, by omega, fun H2 s2 => ?_⟩
  refine ⟨((n ^ L : Nat) : Int), rfl, by omega, by omega, lc_walkF (wk_range (n := n ^ L)) (fun i => decide (i ∉ Lh.map (·.1))) (fun i => .int (i : Nat)) (by omega) True.intro (fun D i x H' C N hi it s3 hD3 ac kC kN' => ?_) fun D H' s3 hD3 e3 => ?_⟩
  · subst it
    have e0 : (0 : Int) + (i : Int) = (i : Int) := by omega
    obtain ⟨kh, hkh, hk⟩ := hdr.mono (s2.trans s3)
    refine ⟨rfl, _, rfl, _, rfl, D1, valV kh (kN i), rfl, .inl ⟨kh, kN i, .inl hkh, by rw [e0]; rfl, rfl⟩, _, rfl, ?_⟩
    by_cases m : i ∈ Lh.map (·.1)
    · obtain ⟨h, mh, e⟩ := List.mem_map.mp m
      obtain ⟨a, ea, _⟩ := hk.val_is nh.1.nd mh
      rw [e] at ea
      rw [ea]
      exact kN' _ (decide_eq_false fun z => z m) (Same.refl _)
    · rw [hk.val_no m]
      have := kC H' (decide_eq_true m) (Same.refl _)
      rw [← e0] at this
      exact ⟨_, rfl, this⟩
  · exact q _ D Lh ((s1.trans s2).trans s3) ((s1.trans s2).free hD3) e3 nh
abbrev N_count : List Str := ["book", "length"]
theorem sc_count : FnScope N_count ["book", "length"] (defScope sd_count) := ⟨rfl, rfl, rfl, by decide +kernel, rfl, by decide +kernel, by decide +kernel⟩
theorem f_count {C fI : Addr} (D : DefAt K mg "count" sd_count) (T : Txt K mg) (f_need_length : FnS P w K mg base CX0 3 "need_length" ["book", "length"] (spNeedLength K C)) (f_rest_spots : FnS P w K mg base CX0 5 "rest_spots" ["book", "length"] (spRest K C)) :
    FnS P w K mg base CX0 6 "count" ["book", "length"] (spCount K C) :=
  mkFn D sc_count (fun _ _ _ _ _ _ us hl => match us, hl with | [_, _], _ => rfl) (fun vs H Q E ⟨_, _, _, _, ⟨_, e, _⟩, _⟩ => by rw [e]; rfl) fun cdv A outer s H vs Q E hr ⟨p, n, fs, L, ⟨b, e, hb, hL, hp1⟩, q⟩ => by
  subst e
  refine ⟨_, (pss_cons (ps_expr (pe_call f_need_length.ok (hr.mono (by decide)) rfl f_need_length.g f_need_length.kp f_need_length.b .nil pass0 (pa_cons (pv 0) (pa_cons (pv 1) pa_nil))))
      (pss_one (ps_ret (pe_callB call_len_seq (by rfl) T.len_ bo_len (pa_cons (pe_call f_rest_spots.ok (hr.mono (by decide)) rfl f_rest_spots.g f_rest_spots.kp f_rest_spots.b .nil pass0 (pa_cons (pv 0) (pa_cons (pv 1) pa_nil))) pa_nil))))), ?_⟩
  refine ⟨_, rfl, _, rfl, p, n, fs, L, ⟨b, rfl, hb, hL, hp1⟩, fun H1 s1 => ?_⟩
  refine ⟨_, rfl, _, rfl, p, n, fs, L, ⟨b, rfl, hb.mono s1, hL, hp1⟩, fun H2 d Lh s2 hd e2 nh => ?_⟩
  refine ⟨d, _, rfl, .inl (SqL.of e2), ?_⟩
  rw [List.length_map]
  exact q _ Lh (s1.trans s2) nh
end
end Kz
end
section
set_option Elab.async false
set_option linter.all false
set_option maxRecDepth 100000
set_option maxHeartbeats 4000000
/-! the mathematics, 5: the spots without heads are those of the normal words -/
namespace Kz
open PySem PySem.Spec PyProof.Rows L2 KzM
theorem van_placed {p : Int} {a w b first last : Nat} {u f : Nat → Int} (hw : 0 < w) (hf : first < a) (hl : last < b) : Van p (a * w * b) u (placedF w b first last f) ↔ Van p w (fun s => u ((first * w + s) * b + last)) f := by
  have e : dot (a * w * b) u (placedF w b first last f) = dot w (fun s => u ((first * w + s) * b + last)) f := by
    unfold dot
    rw [sumN_inj (g := fun s => (first * w + s) * b + last) (w := w) (fun s hs => placed_lt hf hs hl) (fun s t _ _ e => ?_) fun k _ z => ?_]
    · refine sumN_congr fun s hs => ?_
      show u _ * placedF w b first last f ((first * w + s) * b + last) = u _ * f s
      rw [placedF_at hs hl]
    · have e : (first * w + s) * b + last = (first * w + t) * b + last := e
      have e : (first * w + s) * b = (first * w + t) * b := by omega
      have := Nat.eq_of_mul_eq_mul_right (by omega) e
      omega
    · have z2 : placedF w b first last f k ≠ 0 := fun q => z (by rw [q, Int.mul_zero])
      obtain ⟨s, hs, _, e⟩ := placedF_nz hw z2
      exact ⟨s, hs, e⟩
  unfold Van
  rw [e]
theorem dot_pair {n : Nat} {u : Nat → Int} : ∀ {tl : List Trip}, (∀ t ∈ tl, t.1 < n ∧ t.2.1 < n) → dot (n * n) u (pairF n tl) = (tl.map fun t => t.2.2 * u (t.1 * n + t.2.1)).sum
  | [], _ => by
    unfold dot
    exact sumN_zero fun k _ => Int.mul_zero _
  | (x, y, z) :: r, h => by
    obtain ⟨hx, hy⟩ := h (x, y, z) List.mem_cons_self
    have hx : x < n := hx
    have hy : y < n := hy
    have lt : x * n + y < n * n := by
      have : (x + 1) * n ≤ n * n := Nat.mul_le_mul_right n hx
      rw [Nat.add_mul, Nat.one_mul] at this
      omega
    have e : dot (n * n) u (pairF n ((x, y, z) :: r)) = dot (n * n) u (fun k => if x * n + y = k then z else 0) + dot (n * n) u (pairF n r) := by
      rw [← dot_add]
      rfl
    rw [e, dot_pair fun t ht => h t (List.mem_cons_of_mem _ ht)]
    show _ = z * u (x * n + y) + _
    congr 1
    unfold dot
    rw [sumN_one (a := x * n + y) lt fun k _ nk => by
      show u k * (if x * n + y = k then z else 0) = 0
      rw [if_neg fun q => nk q.symm, Int.mul_zero]]
    show u (x * n + y) * (if x * n + y = x * n + y then z else 0) = z * u (x * n + y)
    rw [if_pos rfl, Int.mul_comm]
/-- the rules tls, told of the words α a b γ -/
def Obey (p : Int) (n L : Nat) (tls : List (List Trip)) (f : List Nat → Int) : Prop := ∀ α γ : List Nat, (∀ c ∈ α, c < n) → (∀ c ∈ γ, c < n) → α.length + γ.length + 2 = L → ∀ tl ∈ tls, p ∣ (tl.map fun t => t.2.2 * f (α ++ t.1 :: t.2.1 :: γ)).sum
theorem rows_obey {p : Int} {n L : Nat} {fs : List (Nat → Int)} {tls : List (List Trip)} {u : Nat → Int} (hn : 0 < n) (eq : ∀ u, (∀ f ∈ fs, Van p (n * n) u f) ↔ ∀ tl ∈ tls, Van p (n * n) u (pairF n tl)) (lt : ∀ tl ∈ tls, ∀ t ∈ tl, t.1 < n ∧ t.2.1 < n) :
    (∀ f ∈ allRows n L fs, Van p (n ^ L) u f) ↔ Obey p n L tls fun v => u (val n v) := by
  have n2 : 0 < n * n := Nat.mul_pos hn hn
  have size : ∀ place, place + 2 ≤ L → n ^ place * (n * n) * n ^ (L - place - 2) = n ^ L := fun place h => by
    rw [← Nat.pow_two, ← Nat.pow_add, ← Nat.pow_add]
    exact congrArg (n ^ ·) (by omega)
  constructor
  · intro h α γ hα hγ hl tl htl
    have hp : α.length + 2 ≤ L := by omega
    have eγ : L - α.length - 2 = γ.length := by omega
    have h1 : ∀ f ∈ fs, Van p (n * n) (fun s => u ((val n α * (n * n) + s) * n ^ γ.length + val n γ)) f := fun f hf => by
      rw [← van_placed n2 (val_lt hα) (val_lt hγ)]
      have e := size _ hp
      rw [eγ] at e
      rw [e]
      refine h _ (List.mem_flatMap.mpr ⟨α.length, List.mem_range.mpr (by omega), ?_⟩)
      rw [eγ]
      exact List.mem_flatMap.mpr ⟨val n α, List.mem_range.mpr (val_lt hα), List.mem_flatMap.mpr ⟨f, hf, List.mem_map.mpr ⟨val n γ, List.mem_range.mpr (val_lt hγ), rfl⟩⟩⟩
    have h2 := (eq _).mp h1 tl htl
    unfold Van at h2
    rw [dot_pair (lt tl htl)] at h2
    have e : (tl.map fun t => t.2.2 * u (val n (α ++ t.1 :: t.2.1 :: γ))) = tl.map fun t => t.2.2 * u ((val n α * (n * n) + (t.1 * n + t.2.1)) * n ^ γ.length + val n γ) := List.map_congr_left fun t _ => by rw [val_two]
    rw [e]
    exact h2
  · intro h f hf
    obtain ⟨place, hpl, hf2⟩ := List.mem_flatMap.mp hf
    have hpl : place < L - 1 := List.mem_range.mp hpl
    obtain ⟨first, hfi, hf3⟩ := List.mem_flatMap.mp hf2
    obtain ⟨g, hg, hf4⟩ := List.mem_flatMap.mp hf3
    obtain ⟨last, hla, rfl⟩ := List.mem_map.mp hf4
    have hfi := List.mem_range.mp hfi
    have hla := List.mem_range.mp hla
    rw [← size place (by omega), van_placed n2 hfi hla]
    refine (eq _).mpr (fun tl htl => ?_) g hg
    unfold Van
    rw [dot_pair (lt tl htl)]
    have h1 := h (dig n place first) (dig n (L - place - 2) last) (dig_lt hn hfi) (dig_lt hn hla) (by rw [dig_len, dig_len]; omega) tl htl
    have e : (tl.map fun t => t.2.2 * u (val n (dig n place first ++ t.1 :: t.2.1 :: dig n (L - place - 2) last))) = tl.map fun t => t.2.2 * u ((first * (n * n) + (t.1 * n + t.2.1)) * n ^ (L - place - 2) + last) := List.map_congr_left fun t _ => by rw [val_two, dig_len, val_dig hn hfi, val_dig hn hla]
    rw [e] at h1
    exact h1
/-- the rules tls are those of J, Z and k -/
structure Asks (p : Int) (n : Nat) (tls : List (List Trip)) (J Z : Nat → Nat → Bool) (k : Nat → Nat → Int) : Prop where
  lt : ∀ tl ∈ tls, ∀ t ∈ tl, t.1 < n ∧ t.2.1 < n
  jlt : ∀ a b, J a b = true → a < n ∧ b < n
  iff_ : ∀ g : Nat → Nat → Int, (∀ tl ∈ tls, p ∣ (tl.map fun t => t.2.2 * g t.1 t.2.1).sum) ↔ (∀ a b, J a b = true → p ∣ g b a - k a b * g a b) ∧ ∀ a b, a < n → b < n → Z a b = true → p ∣ g a b
theorem rest_norm {p : Int} {n L : Nat} {fs : List (Nat → Int)} {tls : List (List Trip)} {J Z : Nat → Nat → Bool} {k : Nat → Nat → Int} {Lh : List Head} (hp : 2 ≤ p) (hn : 0 < n) (S : Sys p J Z k) (A : Asks p n tls J Z k)
    (eq : ∀ u, (∀ f ∈ fs, Van p (n * n) u f) ↔ ∀ tl ∈ tls, Van p (n * n) u (pairF n tl)) (N : NoHeads p n L fs Lh) {s : Nat} (hs : s < n ^ L) : s ∉ Lh.map (·.1) ↔ norm J Z (dig n L s) = true := by
  rw [no_head hp N.1 hs]
  constructor
  · rintro ⟨u, ann, hu, top⟩
    have ob := (rows_obey hn eq A.lt).mp ((N.2 u).mp ann)
    refine Decidable.byContradiction fun q => hu ?_
    have q : norm J Z (dig n L s) = false := by simpa using q
    let f : List Nat → Int := fun v => if v.length = L ∧ ∀ c ∈ v, c < n then u (val n v) else 0
    have fz : ∀ {v : List Nat}, ¬ (v.length = L ∧ ∀ c ∈ v, c < n) → f v = 0 := fun h => if_neg h
    have ft : ∀ {v : List Nat}, (v.length = L ∧ ∀ c ∈ v, c < n) → f v = u (val n v) := fun h => if_pos h
    have good : ∀ (α γ : List Nat) (a b : Nat), a < n → b < n → (((α ++ a :: b :: γ).length = L ∧ ∀ c ∈ α ++ a :: b :: γ, c < n) ↔ (α.length + γ.length + 2 = L ∧ (∀ c ∈ α, c < n) ∧ ∀ c ∈ γ, c < n)) := fun α γ a b ha hb => by
      constructor
      · rintro ⟨h1, h2⟩
        exact ⟨by simp at h1; omega, fun c hc => h2 c (by simp [hc]), fun c hc => h2 c (by simp [hc])⟩
      · rintro ⟨h1, h2, h3⟩
        refine ⟨by simp; omega, fun c hc => ?_⟩
        rcases List.mem_append.mp hc with q | q
        · exact h2 c q
        · rcases List.mem_cons.mp q with q | q
          · rw [q]; exact ha
          · rcases List.mem_cons.mp q with q | q
            · rw [q]; exact hb
            · exact h3 c q
    have tell : ∀ α γ : List Nat, α.length + γ.length + 2 = L → (∀ c ∈ α, c < n) → (∀ c ∈ γ, c < n) → (∀ a b, J a b = true → p ∣ u (val n (α ++ b :: a :: γ)) - k a b * u (val n (α ++ a :: b :: γ))) ∧ ∀ a b, a < n → b < n → Z a b = true → p ∣ u (val n (α ++ a :: b :: γ)) := fun α γ h1 h2 h3 =>
      (A.iff_ fun a b => u (val n (α ++ a :: b :: γ))).mp fun tl htl => ob α γ h2 h3 h1 tl htl
    have sw : Swaps p J k f := fun α γ a b j => by
      obtain ⟨ha, hb⟩ := A.jlt a b j
      by_cases c : α.length + γ.length + 2 = L ∧ (∀ c ∈ α, c < n) ∧ ∀ c ∈ γ, c < n
      · rw [ft ((good α γ b a hb ha).mpr c), ft ((good α γ a b ha hb).mpr c)]
        exact (tell α γ c.1 c.2.1 c.2.2).1 a b j
      · rw [fz fun q => c ((good α γ b a hb ha).mp q), fz fun q => c ((good α γ a b ha hb).mp q)]
        exact ⟨0, by simp⟩
    have kz : ∀ (α γ : List Nat) a b, Z a b = true → p ∣ f (α ++ a :: b :: γ) := fun α γ a b z => by
      by_cases c : (α ++ a :: b :: γ).length = L ∧ ∀ c ∈ α ++ a :: b :: γ, c < n
      · have ha : a < n := c.2 a (by simp)
        have hb : b < n := c.2 b (by simp)
        obtain ⟨c1, c2, c3⟩ := (good α γ a b ha hb).mp c
        rw [ft c]
        exact (tell α γ c1 c2 c3).2 a b ha hb z
      · rw [fz c]
        exact ⟨0, by simp⟩
    have h := not_norm S (n := n) sw kz [] q (dig_lt hn hs) fun v ev hv l => by
      rw [dig_len] at ev
      rw [val_dig hn hs] at l
      show p ∣ f v
      rw [ft ⟨ev, hv⟩]
      have := val_lt hv
      rw [ev] at this
      exact top _ l this
    have h : p ∣ f (dig n L s) := h
    rw [ft ⟨dig_len n L s, dig_lt hn hs⟩, val_dig hn hs] at h
    exact h
  · intro hN
    refine ⟨fun t => us J k (dig n L s) (dig n L t), (N.2 _).mpr ((rows_obey hn eq A.lt).mpr fun α γ hα hγ hl tl htl => ?_), ?_, fun t ht htn => ?_⟩
    · have e : (tl.map fun t => t.2.2 * us J k (dig n L s) (dig n L (val n (α ++ t.1 :: t.2.1 :: γ)))) = tl.map fun t => t.2.2 * us J k (dig n L s) (α ++ t.1 :: t.2.1 :: γ) := List.map_congr_left fun t ht => by
        obtain ⟨h1, h2⟩ := A.lt tl htl t ht
        have l : (α ++ t.1 :: t.2.1 :: γ).length = L := by simp; omega
        rw [← l, dig_val hn fun c hc => ?_]
        rcases List.mem_append.mp hc with q | q
        · exact hα c q
        · rcases List.mem_cons.mp q with q | q
          · rw [q]; exact h1
          · rcases List.mem_cons.mp q with q | q
            · rw [q]; exact h2
            · exact hγ c q
      show p ∣ (tl.map fun t => t.2.2 * us J k (dig n L s) (dig n L (val n (α ++ t.1 :: t.2.1 :: γ)))).sum
      rw [e]
      exact (A.iff_ fun a b => us J k (dig n L s) (α ++ a :: b :: γ)).mpr ⟨fun a b j => swaps_us S _ α γ a b j, fun a b _ _ z => us_zero S hN α γ a b z⟩ tl htl
    · show ¬ p ∣ us J k (dig n L s) (dig n L s)
      rw [us_self]
      intro d
      have := Int.le_of_dvd (by decide) d
      omega
    · exact us_top S hN (dig_lt hn hs) (dig_lt hn htn) (by rw [dig_len, dig_len]) (by rw [val_dig hn hs, val_dig hn htn]; exact ht)
theorem rest_count {p : Int} {n L : Nat} {fs : List (Nat → Int)} {tls : List (List Trip)} {J Z : Nat → Nat → Bool} {k : Nat → Nat → Int} {Lh : List Head} (hp : 2 ≤ p) (hn : 0 < n) (S : Sys p J Z k) (A : Asks p n tls J Z k)
    (eq : ∀ u, (∀ f ∈ fs, Van p (n * n) u f) ↔ ∀ tl ∈ tls, Van p (n * n) u (pairF n tl)) (N : NoHeads p n L fs Lh) : (restL n L Lh).length = ((List.range (n ^ L)).filter fun s => norm J Z (dig n L s)).length := by
  unfold restL
  congr 1
  refine List.filter_congr fun s hs => ?_
  have := rest_norm hp hn S A eq N (List.mem_range.mp hs)
  by_cases h : s ∉ Lh.map (·.1)
  · rw [decide_eq_true h, this.mp h]
  · rw [decide_eq_false h]
    cases e : norm J Z (dig n L s) with
    | false => rfl
    | true => exact absurd (this.mpr e) h
end Kz
end
section
set_option Elab.async false
set_option linter.all false
set_option maxRecDepth 100000
set_option maxHeartbeats 4000000
/-! the mathematics, 6: the rules of webs and of shut webs -/
namespace Kz
open PySem PySem.Spec PyProof.Rows L2 KzM
def jnB (trs : List Trip) (a b : Nat) : Bool := decide ((a, b) ∈ pairsOfT trs) || decide ((b, a) ∈ pairsOfT trs)
def sqB (ns : List Nat) (a b : Nat) : Bool := decide (a = b) && decide (a ∈ ns)
def shB (trs : List Trip) (ns : List Nat) (a b : Nat) : Bool := sqB ns a b || (!decide (a = b) && !jnB trs a b)
def wtT (trs : List Trip) (a b : Nat) : Int := ((trs.find? fun t => decide (t.1 = a ∧ t.2.1 = b)).map (·.2.2)).getD 0
def kT (p : Int) (trs : List Trip) (a b : Nat) : Int := if a < b then wtT trs a b else undoneV p (wtT trs b a % p)
theorem jn_is {trs : List Trip} {a b : Nat} : jnB trs a b = true ↔ (a, b) ∈ pairsOfT trs ∨ (b, a) ∈ pairsOfT trs := by
  unfold jnB
  rw [Bool.or_eq_true, decide_eq_true_iff, decide_eq_true_iff]
theorem jn_symm {trs : List Trip} {a b : Nat} (h : jnB trs a b = true) : jnB trs b a = true := jn_is.mpr (jn_is.mp h).symm
section
variable {p : Int} {n : Nat} {trs : List Trip} {ns : List Nat}
theorem wt_of (W : WebOk n trs ns) {t : Trip} (h : t ∈ trs) : wtT trs t.1 t.2.1 = t.2.2 := by
  unfold wtT
  cases e : trs.find? (fun z => decide (z.1 = t.1 ∧ z.2.1 = t.2.1)) with
  | none =>
    have := List.find?_eq_none.mp e t h
    simp at this
  | some z =>
    have m := List.mem_of_find?_eq_some e
    have q : z.1 = t.1 ∧ z.2.1 = t.2.1 := by simpa using List.find?_some e
    have : z = t := by
      obtain ⟨i, hi, ei⟩ := List.getElem_of_mem m
      obtain ⟨j, hj, ej⟩ := List.getElem_of_mem h
      have := nodup_at W.nd (i := i) (j := j) (a := (t.1, t.2.1)) (by rw [List.getElem?_map, List.getElem?_eq_getElem hi, ei]; show some (z.1, z.2.1) = _; rw [q.1, q.2]) (by rw [List.getElem?_map, List.getElem?_eq_getElem hj, ej]; rfl)
      subst this
      exact ei.symm.trans ej
    rw [this]
    rfl
theorem pair_of {a b : Nat} (h : (a, b) ∈ pairsOfT trs) : ∃ t ∈ trs, t.1 = a ∧ t.2.1 = b := by
  obtain ⟨t, ht, e⟩ := List.mem_map.mp h
  cases e
  exact ⟨t, ht, rfl, rfl⟩
theorem k_up (W : WebOk n trs ns) {t : Trip} (h : t ∈ trs) : kT p trs t.1 t.2.1 = t.2.2 := by
  unfold kT
  rw [if_pos (W.lt t h).1, wt_of W h]
theorem k_down (W : WebOk n trs ns) {t : Trip} (h : t ∈ trs) : kT p trs t.2.1 t.1 = undoneV p (t.2.2 % p) := by
  unfold kT
  have := (W.lt t h).1
  rw [if_neg (by omega), wt_of W h]
theorem inv_of (hp : p ∈ fieldsL) {w : Int} (h : w % p ≠ 0) : p ∣ w * undoneV p (w % p) - 1 := by
  have h2 := fields_pos hp
  have lo := Int.emod_nonneg w (show p ≠ 0 by omega)
  have hi := Int.emod_lt_of_pos w (show 0 < p by omega)
  obtain ⟨_, _, e⟩ := undone_is hp (show 0 < w % p by omega) hi
  apply Int.dvd_of_emod_eq_zero
  have e2 : w * undoneV p (w % p) % p = 1 := by
    rw [← e, Int.mul_emod w, Int.mul_emod (w % p) (undoneV p (w % p)), Int.emod_emod]
  rw [Int.sub_emod, e2]
  have : (1 : Int) % p = 1 := Int.emod_eq_of_lt (by omega) (by omega)
  rw [this]
  rfl
theorem jn_lt (W : WebOk n trs ns) {a b : Nat} (h : jnB trs a b = true) : a ≠ b ∧ a < n ∧ b < n := by
  rcases jn_is.mp h with h | h
  · obtain ⟨t, ht, rfl, rfl⟩ := pair_of h
    have := W.lt t ht
    omega
  · obtain ⟨t, ht, rfl, rfl⟩ := pair_of h
    have := W.lt t ht
    omega
theorem jn_irr (W : WebOk n trs ns) (a : Nat) : jnB trs a a = false := by
  cases e : jnB trs a a with
  | false => rfl
  | true => exact absurd rfl (jn_lt W e).1
theorem sq_is {a b : Nat} : sqB ns a b = true ↔ a = b ∧ a ∈ ns := by
  unfold sqB
  rw [Bool.and_eq_true, decide_eq_true_iff, decide_eq_true_iff]
theorem sh_is {a b : Nat} : shB trs ns a b = true ↔ (a = b ∧ a ∈ ns) ∨ (a ≠ b ∧ jnB trs a b = false) := by
  unfold shB
  rw [Bool.or_eq_true, sq_is, Bool.and_eq_true]
  simp
theorem inv_jn (hp : p ∈ fieldsL) (W : WebOk n trs ns) (nz : ∀ x ∈ trs, x.2.2 % p ≠ 0) (a b : Nat) (h : jnB trs a b = true) : p ∣ kT p trs a b * kT p trs b a - 1 := by
  rcases jn_is.mp h with h | h
  · obtain ⟨t, ht, rfl, rfl⟩ := pair_of h
    rw [k_up W ht, k_down W ht]
    exact inv_of hp (nz t ht)
  · obtain ⟨t, ht, rfl, rfl⟩ := pair_of h
    rw [k_up W ht, k_down W ht, Int.mul_comm]
    exact inv_of hp (nz t ht)
theorem sys_web (hp : p ∈ fieldsL) (W : WebOk n trs ns) (nz : ∀ x ∈ trs, x.2.2 % p ≠ 0) : Sys p (jnB trs) (sqB ns) (kT p trs) where
  sym := fun a b h => jn_symm h
  irr := jn_irr W
  zj := fun a b h => by
    rw [(sq_is.mp h).1]
    exact jn_irr W b
  push := fun a b c h j => .inl (by
    rw [← (sq_is.mp h).1]
    exact j)
  inv := inv_jn hp W nz
theorem sys_shut (hp : p ∈ fieldsL) (W : WebOk n trs ns) (nz : ∀ x ∈ trs, x.2.2 % p ≠ 0) : Sys p (jnB trs) (shB trs ns) (kT p trs) where
  sym := fun a b h => jn_symm h
  irr := jn_irr W
  zj := fun a b h => by
    rcases sh_is.mp h with h | h
    · rw [h.1]
      exact jn_irr W b
    · exact h.2
  push := fun a b c h j => by
    by_cases q : c = b
    · rw [q] at j
      rcases sh_is.mp h with h | h
      · rw [h.1, jn_irr W] at j
        cases j
      · rw [jn_symm j] at h
        cases h.2
    · cases e : jnB trs c b with
      | true => exact .inl rfl
      | false => exact .inr (sh_is.mpr (.inr ⟨q, e⟩))
  inv := inv_jn hp W nz
theorem unit_turn {c d x y : Int} (h : p ∣ c * d - 1) (h2 : p ∣ x - c * y) : p ∣ y - d * x := by
  obtain ⟨a, ha⟩ := h
  obtain ⟨b, hb⟩ := h2
  refine ⟨-(a * y) - d * b, ?_⟩
  have e1 : x = c * y + p * b := by omega
  have e2 : c * d = 1 + p * a := by omega
  rw [e1, Int.mul_add, ← Int.mul_assoc, Int.mul_comm d c, e2, Int.add_mul, Int.one_mul, Int.mul_sub, Int.mul_neg, Int.mul_left_comm d p b, Int.mul_assoc]
  omega
theorem web_ask (hp : p ∈ fieldsL) (W : WebOk n trs ns) (nz : ∀ x ∈ trs, x.2.2 % p ≠ 0) (g : Nat → Nat → Int) : (∀ tl ∈ webTr trs ns, p ∣ (tl.map fun t => t.2.2 * g t.1 t.2.1).sum) ↔ (∀ a b, jnB trs a b = true → p ∣ g b a - kT p trs a b * g a b) ∧ ∀ a ∈ ns, p ∣ g a a := by
  have line : ∀ t : Trip, ((lineTr t).map fun t => t.2.2 * g t.1 t.2.1).sum = g t.2.1 t.1 - t.2.2 * g t.1 t.2.1 := fun t => by
    show 1 * g t.2.1 t.1 + ((0 - t.2.2) * g t.1 t.2.1 + 0) = _
    rw [Int.one_mul, Int.sub_mul, Int.zero_mul]
    omega
  constructor
  · intro h
    have h1 : ∀ t ∈ trs, p ∣ g t.2.1 t.1 - t.2.2 * g t.1 t.2.1 := fun t ht => by
      rw [← line]
      exact h _ (List.mem_append.mpr (.inl (List.mem_map.mpr ⟨t, ht, rfl⟩)))
    refine ⟨fun a b j => ?_, fun a ha => ?_⟩
    · rcases jn_is.mp j with q | q
      · obtain ⟨t, ht, rfl, rfl⟩ := pair_of q
        rw [k_up W ht]
        exact h1 t ht
      · obtain ⟨t, ht, rfl, rfl⟩ := pair_of q
        rw [k_down W ht]
        exact unit_turn (inv_of hp (nz t ht)) (h1 t ht)
    · have := h [(a, a, 1)] (List.mem_append.mpr (.inr (List.mem_map.mpr ⟨a, ha, rfl⟩)))
      have this : p ∣ 1 * g a a + 0 := this
      rw [Int.one_mul, Int.add_zero] at this
      exact this
  · rintro ⟨h1, h2⟩ tl htl
    rcases List.mem_append.mp htl with m | m
    · obtain ⟨t, ht, rfl⟩ := List.mem_map.mp m
      rw [line]
      have := h1 t.1 t.2.1 (jn_is.mpr (.inl (List.mem_map.mpr ⟨t, ht, rfl⟩)))
      rw [k_up W ht] at this
      exact this
    · obtain ⟨a, ha, rfl⟩ := List.mem_map.mp m
      show p ∣ 1 * g a a + 0
      rw [Int.one_mul, Int.add_zero]
      exact h2 a ha
theorem webTr_lt (W : WebOk n trs ns) : ∀ tl ∈ webTr trs ns, ∀ t ∈ tl, t.1 < n ∧ t.2.1 < n := fun tl htl => by
  rcases List.mem_append.mp htl with m | m
  · obtain ⟨t, ht, rfl⟩ := List.mem_map.mp m
    have := W.lt t ht
    intro z hz
    rcases List.mem_cons.mp hz with q | q
    · rw [q]; exact ⟨this.2, by show t.1 < n; omega⟩
    · rw [List.mem_singleton.mp q]; exact ⟨by show t.1 < n; omega, this.2⟩
  · obtain ⟨a, ha, rfl⟩ := List.mem_map.mp m
    intro z hz
    rw [List.mem_singleton.mp hz]
    exact ⟨W.no a ha, W.no a ha⟩
theorem asks_web (hp : p ∈ fieldsL) (W : WebOk n trs ns) (nz : ∀ x ∈ trs, x.2.2 % p ≠ 0) : Asks p n (webTr trs ns) (jnB trs) (sqB ns) (kT p trs) where
  lt := webTr_lt W
  jlt := fun a b h => (jn_lt W h).2
  iff_ := fun g => (web_ask hp W nz g).trans ⟨fun h => ⟨h.1, fun a b _ _ z => by
    obtain ⟨rfl, hz⟩ := sq_is.mp z
    exact h.2 a hz⟩, fun h => ⟨h.1, fun a ha => h.2 a a (W.no a ha) (W.no a ha) (sq_is.mpr ⟨rfl, ha⟩)⟩⟩
theorem shut_mem {tl : List Trip} : tl ∈ shutRows n n trs ↔ ∃ x y, x < y ∧ y < n ∧ (x, y) ∉ pairsOfT trs ∧ (tl = [(x, y, 1)] ∨ tl = [(y, x, 1)]) := by
  unfold shutRows shutTo
  rw [List.mem_flatMap]
  constructor
  · rintro ⟨y, hy, h⟩
    obtain ⟨x, hx, h2⟩ := List.mem_flatMap.mp h
    obtain ⟨h3, h4⟩ := List.mem_filter.mp hx
    refine ⟨x, y, List.mem_range.mp h3, List.mem_range.mp hy, of_decide_eq_true h4, ?_⟩
    rcases List.mem_cons.mp h2 with q | q
    · exact .inl q
    · exact .inr (List.mem_singleton.mp q)
  · rintro ⟨x, y, h1, h2, h3, h4⟩
    refine ⟨y, List.mem_range.mpr h2, List.mem_flatMap.mpr ⟨x, List.mem_filter.mpr ⟨List.mem_range.mpr h1, decide_eq_true h3⟩, ?_⟩⟩
    rcases h4 with q | q
    · rw [q]; exact List.mem_cons_self
    · rw [q]; exact List.mem_cons_of_mem _ List.mem_cons_self
theorem not_pair (W : WebOk n trs ns) {x y : Nat} (h : x < y) : (x, y) ∉ pairsOfT trs ↔ jnB trs x y = false := by
  constructor
  · intro q
    cases e : jnB trs x y with
    | false => rfl
    | true =>
      rcases jn_is.mp e with z | z
      · exact absurd z q
      · obtain ⟨t, ht, e1, e2⟩ := pair_of z
        have := W.lt t ht
        omega
  · intro q z
    rw [jn_is.mpr (.inl z)] at q
    cases q
theorem asks_shut (hp : p ∈ fieldsL) (W : WebOk n trs ns) (nz : ∀ x ∈ trs, x.2.2 % p ≠ 0) : Asks p n (shutTr n trs ns) (jnB trs) (shB trs ns) (kT p trs) where
  lt := fun tl htl => by
    rcases List.mem_append.mp htl with m | m
    · exact webTr_lt W tl m
    · obtain ⟨x, y, h1, h2, _, h4⟩ := shut_mem.mp m
      intro t ht
      rcases h4 with q | q
      · rw [q] at ht
        rw [List.mem_singleton.mp ht]
        exact ⟨by show x < n; omega, h2⟩
      · rw [q] at ht
        rw [List.mem_singleton.mp ht]
        exact ⟨h2, by show x < n; omega⟩
  jlt := fun a b h => (jn_lt W h).2
  iff_ := fun g => by
    have w := web_ask hp W nz g
    have one_ : ∀ a b : Nat, ((([(a, b, 1)] : List Trip)).map fun t => t.2.2 * g t.1 t.2.1).sum = g a b := fun a b => by
      show 1 * g a b + 0 = g a b
      rw [Int.one_mul, Int.add_zero]
    constructor
    · intro h
      obtain ⟨h1, h2⟩ := w.mp fun tl htl => h tl (List.mem_append.mpr (.inl htl))
      refine ⟨h1, fun a b ha hb z => ?_⟩
      rcases sh_is.mp z with ⟨rfl, q⟩ | ⟨ne, q⟩
      · exact h2 a q
      · rw [← one_]
        refine h _ (List.mem_append.mpr (.inr (shut_mem.mpr ?_)))
        by_cases lt : a < b
        · exact ⟨a, b, lt, hb, (not_pair W lt).mpr q, .inl rfl⟩
        · refine ⟨b, a, by omega, ha, (not_pair W (by omega)).mpr ?_, .inr rfl⟩
          cases e : jnB trs b a with
          | false => rfl
          | true =>
            rw [jn_symm e] at q
            cases q
    · rintro ⟨h1, h2⟩ tl htl
      rcases List.mem_append.mp htl with m | m
      · exact w.mpr ⟨h1, fun a ha => h2 a a (W.no a ha) (W.no a ha) (sh_is.mpr (.inl ⟨rfl, ha⟩))⟩ tl m
      · obtain ⟨x, y, l1, l2, l3, l4⟩ := shut_mem.mp m
        have z := (not_pair W l1).mp l3
        rcases l4 with q | q
        · rw [q, one_]
          exact h2 x y (by omega) l2 (sh_is.mpr (.inr ⟨by omega, z⟩))
        · rw [q, one_]
          refine h2 y x l2 (by omega) (sh_is.mpr (.inr ⟨by omega, ?_⟩))
          cases e : jnB trs y x with
          | false => rfl
          | true =>
            rw [jn_symm e] at z
            cases z
end
end Kz
end
section
set_option Elab.async false
set_option linter.all false
set_option maxRecDepth 100000
set_option maxHeartbeats 4000000
/-! the mathematics, 11: the law's sums, the fractions and the counts agree -/
namespace Kz
open PySem PySem.Spec PyProof.Rows L2 KzM
theorem conv_upto2 {f f' g g' : Ser} {n : Nat} (hf : ∀ k, k ≤ n → f k = f' k) (hg : ∀ k, k ≤ n → g k = g' k) : conv f g n = conv f' g' n := by
  rw [conv_upto f hg, conv_comm, conv_upto g' hf, conv_comm]
theorem mono_mul (a b : Nat) (c d : Int) (k : Nat) : conv (mono a c) (mono b d) k = mono (a + b) (c * d) k := by
  rw [conv_mono]
  unfold mono
  by_cases h : a ≤ k
  · rw [if_pos h]
    by_cases h2 : k - a = b
    · rw [if_pos h2, if_pos (by omega)]
    · rw [if_neg h2, if_neg (by omega), Int.mul_zero]
  · rw [if_neg h, if_neg (by omega)]
/-- the letters' series, each of them made a power of t by its own part of a power of 1 + e t -/
theorem lotG_pw {e c : Int} {pick : Nat → Bool} {g : Nat → Ser} (hp : ∀ x, pick x = true → ∀ k, conv (Pe e) (g x) k = mono 1 c k) (hn : ∀ x, pick x = false → ∀ k, g x k = mono 1 c k) : ∀ (m : Nat) (lot : List Nat), lot.length = m → ∀ k, conv (pw e (lot.filter pick).length) (lotG g lot) k = mono m (c ^ m) k
  | 0, lot, h, k => by
    rw [List.eq_nil_of_length_eq_zero h]
    show conv one one k = mono 0 (c ^ 0) k
    rw [conv_one, Int.pow_zero]
    rfl
  | m + 1, lot, h, k => by
    have na : lot ≠ [] := fun q => by rw [q] at h; cases h
    obtain ⟨l, x, rfl⟩ : ∃ l x, lot = l ++ [x] := ⟨_, _, (List.dropLast_concat_getLast na).symm⟩
    have ih := lotG_pw hp hn m l (by simpa using h)
    have ih : conv (pw e (l.filter pick).length) (lotG g l) = mono m (c ^ m) := funext ih
    rw [lotG_snoc, List.filter_append, List.length_append, Int.pow_succ, ← mono_mul]
    cases e1 : pick x with
    | true =>
      have e2 : ([x].filter pick).length = 1 := by simp [e1]
      rw [e2, pw_add]
      have e3 : pw e 1 = Pe e := by
        have := pw_add e 0 1
        show pw e (0 + 1) = _
        funext k
        show conv (Pe e) (pw e 0) k = Pe e k
        rw [conv_comm]
        exact conv_one _ k
      rw [e3, conv_assoc, ← ih]
      have e4 : conv (Pe e) (conv (lotG g l) (g x)) = conv (lotG g l) (mono 1 c) := by
        funext k
        rw [← conv_assoc, conv_congrL (g x) (conv_comm (Pe e) (lotG g l)), conv_assoc]
        exact conv_congrR _ (hp x e1) k
      rw [e4, conv_assoc]
    | false =>
      have e2 : ([x].filter pick).length = 0 := by simp [e1]
      rw [e2, Nat.add_zero, ← ih, conv_assoc]
      have e4 : g x = mono 1 c := funext (hn x e1)
      rw [e4]
theorem lotSum_pw {e c : Int} {pick : Nat → Bool} {g : Nat → Ser} (hp : ∀ x, pick x = true → ∀ k, conv (Pe e) (g x) k = mono 1 c k) (hn : ∀ x, pick x = false → ∀ k, g x k = mono 1 c k) {M : Nat} : ∀ {ls : List (List Nat)}, (∀ lot ∈ ls, (lot.filter pick).length ≤ M) → ∀ k, lotSum c e (fun lot => M - (lot.filter pick).length) ls k = conv (pw e M) (fun k => (ls.map fun lot => lotG g lot k).sum) k
  | [], _, k => by
    show (0 : Int) = _
    rw [conv_comm]
    exact (conv_zeroL _ (fun _ => rfl) k).symm
  | lot :: ls, h, k => by
    have ih := lotSum_pw hp hn (ls := ls) (fun l hl => h l (List.mem_cons_of_mem _ hl)) k
    have e1 : lotSum c e (fun lot => M - (lot.filter pick).length) (lot :: ls) k = lotSer c e (fun lot => M - (lot.filter pick).length) lot k + lotSum c e (fun lot => M - (lot.filter pick).length) ls k := by
      unfold lotSum
      rw [List.map_cons, List.sum_cons]
    have e2 : conv (pw e M) (fun k => ((lot :: ls).map fun lot => lotG g lot k).sum) k = conv (pw e M) (lotG g lot) k + conv (pw e M) (fun k => (ls.map fun lot => lotG g lot k).sum) k := by
      rw [← conv_addR]
      exact conv_congrR _ (fun k => by rw [List.map_cons, List.sum_cons]) k
    rw [e1, e2, ih]
    congr 1
    have hl := h lot List.mem_cons_self
    have e3 : pw e M = conv (pw e (M - (lot.filter pick).length)) (pw e (lot.filter pick).length) := by rw [← pw_add, Nat.sub_add_cancel hl]
    rw [e3, conv_assoc, conv_congrR _ (lotG_pw hp hn _ lot rfl), conv_comm, conv_mono]
    rfl
section
variable {p : Int} {n : Nat} {trs : List Trip} {ns : List Nat}
abbrev inB (ns : List Nat) (x : Nat) : Bool := decide (x ∈ ns)
theorem lots_are (W : WebOk n trs ns) : ∀ m, lotsTo (pairsOfT trs) m = lotsB (jnB trs) m
  | 0 => rfl
  | m + 1 => by
    show lotsTo (pairsOfT trs) m ++ _ = lotsB (jnB trs) m ++ _
    rw [lots_are W m]
    congr 2
    refine List.filter_congr fun lot hl => all_congr fun x hx => ?_
    have lt := lotsB_at (jnB trs) m lot hl x hx
    cases e : jnB trs x m with
    | true =>
      refine decide_eq_true ?_
      rcases jn_is.mp e with q | q
      · exact q
      · obtain ⟨t, ht, e1, e2⟩ := pair_of q
        have := W.lt t ht
        omega
    | false =>
      refine decide_eq_false fun q => ?_
      rw [jn_is.mpr (.inl q)] at e
      cases e
theorem WP_yes (j : Nat → Nat → Bool) (g : Nat → Ser) (m k : Nat) : WP j g yes m k = ((lotsB j m).map fun lot => lotG g lot k).sum := by
  unfold WP
  rw [List.filter_eq_self.mpr fun lot _ => List.all_eq_true.mpr fun _ _ => rfl]
theorem lotW_is {f g : Ser} {G : Nat → Ser} {m : Nat} (h : ∀ x k, k ≤ m → (if x ∈ ns then g else f) k = G x k) (lot : List Nat) : ∀ k, k ≤ m → lotW f g ns lot k = lotG G lot k := by
  have : ∀ (l : List Nat) (W W' : Ser), (∀ k, k ≤ m → W k = W' k) → ∀ k, k ≤ m → l.foldl (fun W x => conv W (if x ∈ ns then g else f)) W k = l.foldl (fun W x => conv W (G x)) W' k := by
    intro l
    induction l with
    | nil => intro W W' hW; exact hW
    | cons a l ih =>
      intro W W' hW
      exact ih _ _ fun k hk => conv_upto2 (fun i hi => hW i (by omega)) fun i hi => h a i (by omega)
  exact this lot one one fun _ _ => rfl
/-- the law's sum over all lots -/
theorem sum_is {f g : Ser} {G : Nat → Ser} {m : Nat} (W : WebOk n trs ns) (h : ∀ x k, k ≤ m → (if x ∈ ns then g else f) k = G x k) {ls : List (List Nat)} (pl : ls.Perm (lotsTo (pairsOfT trs) n)) {k : Nat} (hk : k ≤ m) : (ls.map fun lot => lotW f g ns lot k).sum = WP (jnB trs) G yes n k := by
  rw [WP_yes, ← lots_are W, List.map_congr_left fun lot _ => lotW_is h lot k hk]
  exact sum_perm (pl.map _)
theorem lets_web (W : WebOk n trs ns) : Lets (jnB trs) (sqB ns) (inB ns) where
  sym := fun a b => by
    cases e : jnB trs a b with
    | true => exact (jn_symm e).symm
    | false =>
      cases e2 : jnB trs b a with
      | false => rfl
      | true => rw [jn_symm e2] at e; cases e
  irr := jn_irr W
  own := fun a => by
    unfold sqB
    rw [decide_eq_true rfl, Bool.true_and]
theorem lets_shut (W : WebOk n trs ns) : Lets (jnB trs) (shB trs ns) (inB ns) where
  sym := (lets_web W).sym
  irr := jn_irr W
  own := fun a => by
    unfold shB
    rw [(lets_web W).own, decide_eq_true rfl]
    cases inB ns a <;> rfl
theorem web_off (a b : Nat) (h : a ≠ b) : sqB ns a b = false := by
  unfold sqB
  rw [decide_eq_false h]
  rfl
theorem shut_off (a b : Nat) (h : a ≠ b) : shB trs ns a b = !jnB trs a b := by
  unfold shB
  rw [web_off a b h, decide_eq_false h]
  rfl
/-- the lengths that are asked -/
theorem len_ok {L : Nat} (W : WebOk n trs ns) (hL : L ≤ longTo n 125 7) : (∀ k, k ≤ L → k ≤ 3 ∨ (n, k) ∈ asked) ∧ L ≤ 6 ∧ n ^ L ≤ 1000 ∧ L ≤ 2 * n + 4 := by
  have : ∀ n ∈ List.range 6, 1 ≤ n → longTo n 125 7 ≤ 6 ∧ n ^ (longTo n 125 7) ≤ 1000 ∧ ∀ k ∈ List.range 7, k ≤ longTo n 125 7 → k ≤ 3 ∨ (n, k) ∈ asked := by decide
  have n1 := W.n1
  have n5 := W.n5
  obtain ⟨h1, h2, h3⟩ := this n (List.mem_range.mpr (by omega)) n1
  exact ⟨fun k hk => h3 k (List.mem_range.mpr (by omega)) (by omega), by omega, Nat.le_trans (Nat.pow_le_pow_right n1 hL) h2, by omega⟩
theorem count_web {L m : Nat} {fs : List (Nat → Int)} {Lh : List Head} {c Wc : Ser} (hp : p ∈ fieldsL) (W : WebOk n trs ns) (nz : ∀ x ∈ trs, x.2.2 % p ≠ 0) (hL : L ≤ longTo n 125 7) (hm : m = 2 * n + 4)
    (eq : ∀ u, (∀ f ∈ fs, Van p (n * n) u f) ↔ ∀ tl ∈ webTr trs ns, Van p (n * n) u (pairF n tl)) (N : NoHeads p n L fs Lh) (hW : ∀ k, k ≤ m → Wc k = WP (jnB trs) (gW (inB ns)) yes n k) (hc : ∀ k, k ≤ m → conv Wc c k = one k) : ((restL n L Lh).length : Int) = c L := by
  obtain ⟨h1, h2, h3, h4⟩ := len_ok W hL
  have n1 := W.n1
  rw [rest_count (fields_pos hp).1 n1 (sys_web hp W nz) (asks_web hp W nz) eq N, cnt_wsum n1]
  have w0 : WP (jnB trs) (gW (inB ns)) yes n 0 = 1 := WP_zero (fun x => (gW_at x).1) n yes
  refine conv_cancel (f := WP (jnB trs) (gW (inB ns)) yes n) w0 (g := fun L => wsum n L fun w => ind (norm (jnB trs) (sqB ns) w)) (m := L) (fun k hk => ?_) L (Nat.le_refl L)
  rw [web_counts (lets_web W) web_off (h1 k hk), ← hc k (by omega)]
  exact conv_upto2 (fun i hi => hW i (by omega)) fun _ _ => rfl
theorem count_shut {L m : Nat} {fs : List (Nat → Int)} {Lh : List Head} {Wc : Ser} (hp : p ∈ fieldsL) (W : WebOk n trs ns) (nz : ∀ x ∈ trs, x.2.2 % p ≠ 0) (hL : L ≤ longTo n 125 7) (hm : m = 2 * n + 4)
    (eq : ∀ u, (∀ f ∈ fs, Van p (n * n) u f) ↔ ∀ tl ∈ shutTr n trs ns, Van p (n * n) u (pairF n tl)) (N : NoHeads p n L fs Lh) (hW : ∀ k, k ≤ m → Wc k = WP (jnB trs) (gS (inB ns)) yes n k) : ((restL n L Lh).length : Int) = Wc L := by
  obtain ⟨h1, h2, h3, h4⟩ := len_ok W hL
  have n1 := W.n1
  rw [rest_count (fields_pos hp).1 n1 (sys_shut hp W nz) (asks_shut hp W nz) eq N, cnt_wsum n1, hW L (by omega), shut_counts (lets_shut W) shut_off (h1 L (Nat.le_refl L))]
/-! ### the fractions -/
theorem webF_pw (W : WebOk n trs ns) (k : Nat) : (webF n trs ns).2 k = conv (pw 1 ns.length) (WP (jnB trs) (gW (inB ns)) yes n) k := by
  have e : WP (jnB trs) (gW (inB ns)) yes n = fun k => ((lotsTo (pairsOfT trs) n).map fun lot => lotG (gW (inB ns)) lot k).sum := funext fun k => by rw [WP_yes, lots_are W]
  rw [e]
  refine lotSum_pw (pick := inB ns) (fun x hx k => ?_) (fun x hx k => ?_) (fun lot hl => lost_le (lotsTo_nodup _ n lot hl)) k
  · unfold gW
    rw [hx]
    cases k with
    | zero => rfl
    | succ k =>
      rw [conv_P]
      show (-1 : Int) ^ (k + 1) + 1 * (if k = 0 then 0 else (-1) ^ k) = mono 1 (-1) (k + 1)
      unfold mono
      cases k with
      | zero => rfl
      | succ k =>
        rw [if_neg (by omega), if_neg (by omega), Int.pow_succ]
        omega
  · unfold gW mono
    rw [hx]
    rfl
theorem shutF_pw (W : WebOk n trs ns) (k : Nat) : (shutF n trs ns).1 k = conv (pw (-1) (n - ns.length)) (WP (jnB trs) (gS (inB ns)) yes n) k := by
  have e : WP (jnB trs) (gS (inB ns)) yes n = fun k => ((lotsTo (pairsOfT trs) n).map fun lot => lotG (gS (inB ns)) lot k).sum := funext fun k => by rw [WP_yes, lots_are W]
  rw [e]
  refine lotSum_pw (pick := fun x => !inB ns x) (fun x hx k => ?_) (fun x hx k => ?_) (fun lot hl => ?_) k
  · have hx : inB ns x = false := by simpa using hx
    unfold gS
    rw [hx]
    cases k with
    | zero => rfl
    | succ k =>
      rw [conv_P]
      show (1 : Int) + (-1) * (if k = 0 then 0 else 1) = mono 1 1 (k + 1)
      unfold mono
      cases k with
      | zero => rfl
      | succ k =>
        rw [if_neg (by omega), if_neg (by omega)]
        rfl
  · have hx : inB ns x = true := by simpa using hx
    unfold gS mono
    rw [hx]
    rfl
  · have := kept_le (lotsTo_nodup (pairsOfT trs) n lot hl) (lotsTo_at (pairsOfT trs) n lot hl).2 W.ndn W.no
    show keptIn ns lot ≤ n - ns.length
    omega
theorem told_web {over below r1 r2 : List Int} {k0 m : Nat} {c Wc : Ser} (W : WebOk n trs ns) (le : Least 1 k0 over below r1 r2) (h1 : ∀ k, co over k = (webF n trs ns).1 k) (h2 : ∀ k, co below k = (webF n trs ns).2 k)
    (hW : ∀ k, k ≤ m → Wc k = WP (jnB trs) (gW (inB ns)) yes n k) (hc : ∀ k, k ≤ m → conv Wc c k = one k) : ∀ k, k ≤ m → conv (co r2) c k = co r1 k := by
  refine conv_cancel (f := pw 1 k0) (pw_zero 1 k0) fun k hk => ?_
  rw [← conv_assoc, ← le.c1 k, h1, conv_congrL c (fun k => (le.c2 k).symm), conv_congrL c h2, conv_congrL c (webF_pw W), conv_assoc]
  have e : conv (pw 1 ns.length) (conv (WP (jnB trs) (gW (inB ns)) yes n) c) k = conv (pw 1 ns.length) one k := conv_upto _ fun i hi => by
    rw [← hc i (by omega)]
    exact conv_upto2 (fun j hj => (hW j (by omega)).symm) fun _ _ => rfl
  rw [e, conv_comm, conv_one]
  rfl
theorem told_shut {over below r1 r2 : List Int} {k0 m : Nat} {Wc : Ser} (W : WebOk n trs ns) (le : Least (-1) k0 over below r1 r2) (h1 : ∀ k, co over k = (shutF n trs ns).1 k) (h2 : ∀ k, co below k = (shutF n trs ns).2 k)
    (hW : ∀ k, k ≤ m → Wc k = WP (jnB trs) (gS (inB ns)) yes n k) : ∀ k, k ≤ m → conv (co r2) Wc k = co r1 k := by
  refine conv_cancel (f := pw (-1) k0) (pw_zero (-1) k0) fun k hk => ?_
  rw [← conv_assoc, ← le.c1 k, h1, conv_congrL Wc (fun k => (le.c2 k).symm), conv_congrL Wc h2, shutF_pw W]
  exact conv_upto _ fun i hi => hW i (by omega)
/-- both have no common part -/
theorem Least.cop {e : Int} {k0 : Nat} {over below r1 r2 : List Int} (h : Least e k0 over below r1 r2) : CopP e 0 (co r1) (co r2) ∨ CopP e 0 (co r2) (co r1) := by
  rcases h.cp with c | c
  · exact .inl (cop_zero c h.c1 h.c2)
  · exact .inr (cop_zero c h.c2 h.c1)
theorem trim_ext {l m : List Int} (hl : Trimd l) (hm : Trimd m) (h : ∀ k, co l k = co m k) : l = m := by
  refine co_ext ?_ h
  refine Decidable.byContradiction fun ne => ?_
  have up : ∀ {l m : List Int}, Trimd l → (∀ k, co l k = co m k) → l.length ≤ m.length := fun {l m} hl h => Decidable.byContradiction fun q => by
    have nl : l ≠ [] := fun z => by rw [z] at q; exact q (Nat.zero_le _)
    exact hl nl (by rw [h]; exact co_out (by omega))
  have a := up hl h
  have b := up hm fun k => (h k).symm
  omega
theorem Least.same {e : Int} {k0 : Nat} {over below r1 r2 over' below' s1 s2 : List Int} (h : Least e k0 over below r1 r2) (g : Least e k0 over' below' s1 s2) (e1 : ∀ k, co over k = co over' k) (e2 : ∀ k, co below k = co below' k) : r1 = s1 ∧ r2 = s2 :=
  ⟨trim_ext h.t1 g.t1 (conv_cancel' (pw_zero e k0) fun k => by rw [← h.c1, ← g.c1, e1]), trim_ext h.t2 g.t2 (conv_cancel' (pw_zero e k0) fun k => by rw [← h.c2, ← g.c2, e2])⟩
end
end Kz
end
section
set_option Elab.async false
set_option linter.all false
set_option maxRecDepth 100000
set_option maxHeartbeats 4000000
/-! the law's lots -/
namespace Kz
open PySem PySem.Spec PyProof.Rows L2 KzM
def bitsOf (n x : Nat) : List Nat := (List.range n).filter fun k => decide (x / 2 ^ k % 2 = 1)
def clB (trs : List Trip) (l : List Nat) : Bool := (prsTo l.length l.length).all fun p => jnB trs (l.getD p.1 0) (l.getD p.2 0)
theorem mem_prs (n : Nat) : ∀ a, a ≤ n → ∀ i j, (i, j) ∈ prsTo n a ↔ i < a ∧ i < j ∧ j < n
  | 0, _, i, j => ⟨fun h => (by cases h), fun h => by omega⟩
  | a + 1, ha, i, j => by
    show (i, j) ∈ prsTo n a ++ _ ↔ _
    rw [List.mem_append, mem_prs n a (by omega)]
    constructor
    · rintro (h | h)
      · omega
      · obtain ⟨k, hk, e⟩ := List.mem_map.mp h
        have := List.mem_range.mp hk
        have e1 := (Prod.mk.inj e).1
        have e2 := (Prod.mk.inj e).2
        omega
    · intro h
      by_cases c : i < a
      · exact .inl ⟨c, h.2⟩
      · refine .inr (List.mem_map.mpr ⟨j - (a + 1), List.mem_range.mpr (by omega), ?_⟩)
        have : i = a := by omega
        subst this
        rw [show i + 1 + (j - (i + 1)) = j by omega]
theorem clB_is {trs : List Trip} {l : List Nat} : clB trs l = true ↔ ∀ i j, i < j → j < l.length → jnB trs (l.getD i 0) (l.getD j 0) = true := by
  unfold clB
  rw [List.all_eq_true]
  constructor
  · intro h i j hij hj
    exact h (i, j) ((mem_prs _ _ (Nat.le_refl _) i j).mpr ⟨by omega, hij, hj⟩)
  · rintro h ⟨i, j⟩ hm
    have := (mem_prs _ _ (Nat.le_refl _) i j).mp hm
    exact h i j this.2.1 this.2.2
theorem getD_left {l : List Nat} {m i : Nat} (h : i < l.length) : (l ++ [m]).getD i 0 = l.getD i 0 := by
  rw [List.getD_eq_getElem?_getD, List.getElem?_append_left h, List.getD_eq_getElem?_getD]
theorem getD_last {l : List Nat} {m : Nat} : (l ++ [m]).getD l.length 0 = m := by
  rw [List.getD_eq_getElem?_getD, List.getElem?_append_right (Nat.le_refl _), Nat.sub_self]
  rfl
theorem clB_snoc {trs : List Trip} {l : List Nat} {m : Nat} : clB trs (l ++ [m]) = (clB trs l && l.all fun o => jnB trs o m) := by
  have iff_ : clB trs (l ++ [m]) = true ↔ (clB trs l && l.all fun o => jnB trs o m) = true := by
    rw [Bool.and_eq_true, clB_is, clB_is, List.all_eq_true]
    constructor
    · intro h
      refine ⟨fun i j hij hj => ?_, fun o ho => ?_⟩
      · have := h i j hij (by rw [List.length_append]; omega)
        rw [getD_left (by omega), getD_left hj] at this
        exact this
      · obtain ⟨i, hi⟩ := List.getElem?_of_mem ho
        have il := (List.getElem?_eq_some_iff.mp hi).1
        have := h i l.length il (by rw [List.length_append]; show _ < _ + 1; omega)
        rw [getD_left il, getD_last, List.getD_eq_getElem?_getD, hi] at this
        exact this
    · rintro ⟨h1, h2⟩ i j hij hj
      rw [List.length_append] at hj
      have hj : j < l.length + 1 := hj
      by_cases c : j < l.length
      · rw [getD_left (by omega), getD_left c]
        exact h1 i j hij c
      · have e : j = l.length := by omega
        subst e
        rw [getD_left hij, getD_last]
        refine h2 _ ?_
        rw [List.getD_eq_getElem?_getD, List.getElem?_eq_getElem hij]
        exact List.getElem_mem hij
  cases e : clB trs (l ++ [m]) with
  | true => exact (iff_.mp e).symm
  | false =>
    cases e2 : (clB trs l && l.all fun o => jnB trs o m) with
    | false => rfl
    | true => rw [iff_.mpr e2] at e; cases e
theorem bits_low {m x : Nat} (h : x < 2 ^ m) : bitsOf (m + 1) x = bitsOf m x := by
  unfold bitsOf
  rw [List.range_succ, List.filter_append]
  have : ¬ x / 2 ^ m % 2 = 1 := by rw [Nat.div_eq_of_lt h]; decide
  have e : [m].filter (fun k => decide (x / 2 ^ k % 2 = 1)) = [] := by
    rw [List.filter_cons, decide_eq_false this]
    rfl
  rw [e, List.append_nil]
theorem bits_high {m x : Nat} (h : x < 2 ^ m) : bitsOf (m + 1) (2 ^ m + x) = bitsOf m x ++ [m] := by
  unfold bitsOf
  rw [List.range_succ, List.filter_append]
  have : (2 ^ m + x) / 2 ^ m % 2 = 1 := by
    rw [Nat.add_div_left _ (Nat.pow_pos (by decide)), Nat.div_eq_of_lt h]
  have e : [m].filter (fun k => decide ((2 ^ m + x) / 2 ^ k % 2 = 1)) = [m] := by
    rw [List.filter_cons, decide_eq_true this]
    rfl
  rw [e]
  congr 1
  refine List.filter_congr fun k hk => decide_eq_decide.mpr ?_
  have hk := List.mem_range.mp hk
  have e2 : 2 ^ m = 2 ^ k * (2 * 2 ^ (m - k - 1)) := by
    rw [show 2 * 2 ^ (m - k - 1) = 2 ^ (m - k - 1 + 1) by rw [Nat.pow_succ, Nat.mul_comm], ← Nat.pow_add]
    exact congrArg (2 ^ ·) (by omega)
  rw [e2, Nat.mul_add_div (Nat.pow_pos (by decide)), Nat.mul_add_mod]
theorem lots_bits {n : Nat} {trs : List Trip} {ns : List Nat} (W : WebOk n trs ns) : ∀ m, ((List.range (2 ^ m)).filter fun x => clB trs (bitsOf m x)).map (bitsOf m) = lotsTo (pairsOfT trs) m
  | 0 => rfl
  | m + 1 => by
    have ih := lots_bits W m
    have er : List.range (2 ^ (m + 1)) = List.range (2 ^ m) ++ (List.range (2 ^ m)).map (2 ^ m + ·) := by
      rw [Nat.pow_succ, Nat.mul_two, List.range_add]
    rw [er, List.filter_append, List.map_append, List.filter_map, List.map_map]
    show _ = lotsTo (pairsOfT trs) m ++ ((lotsTo (pairsOfT trs) m).filter fun lot => lot.all fun o => decide ((o, m) ∈ pairsOfT trs)).map fun lot => lot ++ [m]
    rw [← ih]
    congr 1
    · have : (List.range (2 ^ m)).filter (fun x => clB trs (bitsOf (m + 1) x)) = (List.range (2 ^ m)).filter fun x => clB trs (bitsOf m x) := List.filter_congr fun x hx => by rw [bits_low (List.mem_range.mp hx)]
      rw [this]
      exact List.map_congr_left fun x hx => bits_low (List.mem_range.mp (List.mem_filter.mp hx).1)
    · rw [List.filter_map, List.map_map, List.filter_filter]
      have e1 : (List.range (2 ^ m)).filter ((fun x => clB trs (bitsOf (m + 1) x)) ∘ (2 ^ m + ·)) = (List.range (2 ^ m)).filter fun x => ((fun lot : List Nat => lot.all fun o => decide ((o, m) ∈ pairsOfT trs)) ∘ bitsOf m) x && clB trs (bitsOf m x) := List.filter_congr fun x hx => by
        show clB trs (bitsOf (m + 1) (2 ^ m + x)) = ((bitsOf m x).all (fun o => decide ((o, m) ∈ pairsOfT trs)) && clB trs (bitsOf m x))
        rw [bits_high (List.mem_range.mp hx), clB_snoc, Bool.and_comm]
        congr 1
        refine all_congr fun o ho => ?_
        have lt : o < m := List.mem_range.mp (List.mem_filter.mp ho).1
        cases e : jnB trs o m with
        | true =>
          symm
          refine decide_eq_true ?_
          rcases jn_is.mp e with q | q
          · exact q
          · obtain ⟨t, ht, e1, e2⟩ := pair_of q
            have := W.lt t ht
            omega
        | false =>
          symm
          refine decide_eq_false fun q => ?_
          rw [jn_is.mpr (.inl q)] at e
          cases e
      rw [e1]
      exact List.map_congr_left fun x hx => bits_high (List.mem_range.mp (List.mem_filter.mp hx).1)
theorem bits_at {n x k : Nat} (h : k ∈ bitsOf n x) : k < n := List.mem_range.mp (List.mem_filter.mp h).1
theorem bits_len (n x : Nat) : (bitsOf n x).length ≤ n := Nat.le_trans (List.length_filter_le _ _) (by rw [List.length_range]; exact Nat.le_refl _)
/-- the lines, told as pairs of letters, either one first -/
def bothP (trs : List Trip) : List (List Int) := trs.map (fun t => [(t.1 : Int), (t.2.1 : Int)]) ++ trs.map fun t => [(t.2.1 : Int), (t.1 : Int)]
theorem both_mem {trs : List Trip} {x y : Nat} : [(x : Int), (y : Int)] ∈ bothP trs ↔ jnB trs x y = true := by
  unfold bothP
  rw [List.mem_append, jn_is]
  constructor
  · rintro (h | h)
    · obtain ⟨t, ht, e⟩ := List.mem_map.mp h
      simp at e
      exact .inl (List.mem_map.mpr ⟨t, ht, by rw [show t.1 = x by omega, show t.2.1 = y by omega]⟩)
    · obtain ⟨t, ht, e⟩ := List.mem_map.mp h
      simp at e
      exact .inr (List.mem_map.mpr ⟨t, ht, by rw [show t.1 = y by omega, show t.2.1 = x by omega]⟩)
  · rintro (h | h)
    · obtain ⟨t, ht, rfl, rfl⟩ := pair_of h
      exact .inl (List.mem_map.mpr ⟨t, ht, rfl⟩)
    · obtain ⟨t, ht, rfl, rfl⟩ := pair_of h
      exact .inr (List.mem_map.mpr ⟨t, ht, rfl⟩)
theorem paired_getD {K : PySem.W.Frag} {H : Hp} {ts : List Addr} {trs : List Trip} {i : Nat} {x : V} (pr : Paired (fun t x => LineX K H t x) ts trs) (h : (ts.map V.ref)[i]? = some x) : ∃ (t : Addr) (z : Trip), x = .ref t ∧ ts[i]? = some t ∧ trs[i]? = some z ∧ LineX K H t z := by
  rw [List.getElem?_map] at h
  cases e : ts[i]? with
  | none => rw [e] at h; cases h
  | some t =>
    rw [e] at h
    obtain ⟨z, hz, l⟩ := paired_at2 pr e
    exact ⟨t, z, (Option.some.inj h).symm, rfl, hz, l⟩
def spJoined (K : PySem.W.Frag) : Sp := fun vs H Q _ => ∃ (a : Addr) (trs : List Trip), vs = [.ref a] ∧ LinesL K H a trs ∧ trs.length ≤ 10 ∧ ∀ H' g, Same H H' → H g = none → TupsAt K H' g (bothP trs) → (∃ xs, H' g = some (.lst xs)) → Q (.ref g) H'
def spAllLots (K : PySem.W.Frag) : Sp := fun vs H Q _ => ∃ (n : Nat) (a : Addr) (trs : List Trip) (ns : List Nat), vs = [.int (n : Nat), .ref a] ∧ LinesL K H a trs ∧ WebOk n trs ns ∧ ∀ H' g ls, Same H H' → H g = none → LotsAt K H' g ls → ls.Perm (lotsTo (pairsOfT trs) n) → Q (.ref g) H'
section
variable {P : Program} {w : World} {K : PySem.W.Frag} {mg : Str → Option Value} {base : Heap}
abbrev N_joined_by_lines : List Str := ["_law_lines_here", "_law_line"]
theorem sc_joined_by_lines : FnScope N_joined_by_lines ["_law_lines_here"] (defScope sl_joined_by_lines) := ⟨rfl, rfl, rfl, by decide +kernel, rfl, by decide +kernel, by decide +kernel⟩
theorem f_law_joined_by_lines (D : DefAt K mg "_law_joined_by_lines" sl_joined_by_lines) (T : Txt K mg) : FnS P w K mg base CX0 1 "_law_joined_by_lines" ["_law_lines_here"] (spJoined K) :=
  mkFn D sc_joined_by_lines (fun _ _ _ _ _ _ us hl => match us, hl with | [_], _ => rfl) (fun vs H Q E ⟨_, _, e, _⟩ => by rw [e]; rfl) fun cdv A outer s H vs Q E hr ⟨a, trs, e, ⟨ts, ha, pr⟩, l10, q⟩ => by
  subst e
  have big : 10000 < sizeLine := by decide
  refine ⟨_, (pss_one (ps_ret (pe_op op_cat (pe_lc (own := [("_law_line", 1)]) (g := (gName 1)) rfl sc_joined_by_lines.nd (pi_list (pv 0)) (blkOk_by (N := N_joined_by_lines) (sc := defScope sl_joined_by_lines) (by decide +kernel)) (fun _ _ _ _ _ => (pg_name (i := 1) sc_joined_by_lines.nd rfl (.inl rfl))) (fun _ _ _ _ _ => pts_nil) (fun _ _ _ _ _ => (pe_tup (pa_cons (pe_ix (ix_seqX : IxR _ (ixSeq K)) (pv 1) pe_int (fun _ _ => rfl)) (pa_cons (pe_ix (ix_seqX : IxR _ (ixSeq K)) (pv 1) pe_int (fun _ _ => rfl)) pa_nil))))) (pe_lc (own := [("_law_line", 1)]) (g := (gName 1)) rfl sc_joined_by_lines.nd (pi_list (pv 0)) (blkOk_by (N := N_joined_by_lines) (sc := defScope sl_joined_by_lines) (by decide +kernel)) (fun _ _ _ _ _ => (pg_name (i := 1) sc_joined_by_lines.nd rfl (.inl rfl))) (fun _ _ _ _ _ => pts_nil) (fun _ _ _ _ _ => (pe_tup (pa_cons (pe_ix (ix_seqX : IxR _ (ixSeq K)) (pv 1) pe_int (fun _ _ => rfl)) (pa_cons (pe_ix (ix_seqX : IxR _ (ixSeq K)) (pv 1) pe_int (fun _ _ => rfl)) pa_nil)))))))), ?_⟩
  have lt := paired_len pr
  let F : Nat → List Int := fun i => (trs[i]?.map fun t => [(t.1 : Int), (t.2.1 : Int)]).getD []
  let G : Nat → List Int := fun i => (trs[i]?.map fun t => [(t.2.1 : Int), (t.1 : Int)]).getD []
  have hF : ∀ i t, trs[i]? = some t → F i = [(t.1 : Int), (t.2.1 : Int)] := fun i t h => by show (trs[i]?.map _).getD [] = _; rw [h]; rfl
  have hG : ∀ i t, trs[i]? = some t → G i = [(t.2.1 : Int), (t.1 : Int)] := fun i t h => by show (trs[i]?.map _).getD [] = _; rw [h]; rfl
  refine ret1 (op1 ⟨_, rfl, a, rfl, ⟨_, ha⟩, ?_⟩)
  refine lc_walk (wk_list (K := K) (xs := ts.map V.ref)) (fun _ => true) (fun D j y H => ∃ t, y = V.ref t ∧ t ≠ D ∧ H t = some (.tup ((F j).map V.int))) (fun D j y H1 H2 b ⟨t, e1, n, h⟩ => ⟨t, e1, n, b _ _ n h⟩) (by rw [List.length_map]; omega) ha
    (fun D j x H5 C N hj it5 s5 hD5 ac5 kC kN => ?_) (fun D1 H5 ys s5 hD5 e5 r5 => ?_)
  · obtain ⟨t, z, rfl, e1, e2, lx⟩ := paired_getD pr it5
    obtain ⟨acc, hacc⟩ := ac5
    have lx5 := s5.seqX lx
    refine ⟨rfl, _, rfl, t, _, (0 : Nat), _, rfl, rfl, lx5, atI_nat (j := 0) rfl, _, rfl, t, _, (1 : Nat), _, rfl, rfl, lx5, atI_nat (j := 1) rfl, (by show 2 ≤ sizeLine; decide), fun u hu => kC _ _ rfl (Same.new hu) ⟨u, rfl, ne_of_none' hacc hu, by rw [hF _ _ e2]; exact upd_same⟩⟩
  · rw [List.filter_eq_self.mpr fun _ _ => rfl] at r5
    obtain ⟨ks1, rfl, k1, m1⟩ := paired_ks (F := F) r5
    rw [show (List.range (ts.map V.ref).length).map F = trs.map fun t => [(t.1 : Int), (t.2.1 : Int)] by rw [List.length_map, lt]; exact range_map trs F _ hF] at m1
    refine ⟨_, rfl, a, rfl, ⟨_, s5.seq ha⟩, ?_⟩
    refine lc_walk (wk_list (K := K) (xs := ts.map V.ref)) (fun _ => true) (fun D j y H => ∃ t, y = V.ref t ∧ t ≠ D ∧ H t = some (.tup ((G j).map V.int))) (fun D j y H1 H2 b ⟨t, e1, n, h⟩ => ⟨t, e1, n, b _ _ n h⟩) (by rw [List.length_map]; omega) (s5.seq ha)
      (fun D j x H6 C N hj it6 s6 hD6 ac6 kC kN => ?_) (fun D2 H6 ys s6 hD6 e6 r6 => ?_)
    · obtain ⟨t, z, rfl, e1, e2, lx⟩ := paired_getD pr it6
      obtain ⟨acc, hacc⟩ := ac6
      have lx6 := (s5.trans s6).seqX lx
      refine ⟨rfl, _, rfl, t, _, (1 : Nat), _, rfl, rfl, lx6, atI_nat (j := 1) rfl, _, rfl, t, _, (0 : Nat), _, rfl, rfl, lx6, atI_nat (j := 0) rfl, (by show 2 ≤ sizeLine; decide), fun u hu => kC _ _ rfl (Same.new hu) ⟨u, rfl, ne_of_none' hacc hu, by rw [hG _ _ e2]; exact upd_same⟩⟩
    · rw [List.filter_eq_self.mpr fun _ _ => rfl] at r6
      obtain ⟨ks2, rfl, k2, m2⟩ := paired_ks (F := G) r6
      rw [show (List.range (ts.map V.ref).length).map G = trs.map fun t => [(t.2.1 : Int), (t.1 : Int)] by rw [List.length_map, lt]; exact range_map trs G _ hG] at m2
      have l1 : ks1.length ≤ 10 := by
        have := congrArg List.length m1
        rw [List.length_map, List.length_map] at this
        omega
      have l2 : ks2.length ≤ 10 := by
        have := congrArg List.length m2
        rw [List.length_map, List.length_map] at this
        omega
      refine ⟨D1, D2, _, _, rfl, rfl, s6 _ _ e5, e6, by rw [List.length_map, List.length_map]; omega, fun p hp => ?_⟩
      have s7 : Same H6 (upd H6 p (.lst (ks1.map (fun p => V.ref p.1) ++ ks2.map fun p => V.ref p.1))) := Same.new hp
      refine q _ p ((s5.trans s6).trans s7) ((s5.trans s6).free hp) ⟨ks1 ++ ks2, SqL.of (by rw [List.map_append]; exact upd_same), fun k hk => ?_, by rw [List.map_append, m1, m2]; rfl⟩ ⟨_, upd_same⟩
      rcases List.mem_append.mp hk with z | z
      · exact SqT.of (s7 _ _ (s6 _ _ (k1 k z)))
      · exact SqT.of (s7 _ _ (k2 k z))
end
end Kz
end
section
set_option Elab.async false
set_option linter.all false
set_option maxRecDepth 100000
set_option maxHeartbeats 4000000
/-! the law's lots, 2 -/
namespace Kz
open PySem PySem.Spec PyProof.Rows L2 KzM
theorem iteF' {p q : Prop} {c : Bool} (e : c = false) (h : q) : if c = true then p else q := by
  rw [if_neg (by rw [e]; decide)]
  exact h
section
variable {P : Program} {w : World} {K : PySem.W.Frag} {mg : Str → Option Value} {base : Heap}
abbrev N_all_lots : List Str := ["_law_letters", "_law_lines_here", "_law_pairs_here", "_law_found", "_law_number", "_law_lot", "_law_k", "_law_i", "_law_j"]
theorem sc_all_lots : FnScope N_all_lots ["_law_letters", "_law_lines_here"] (defScope sl_all_lots) := ⟨rfl, rfl, rfl, by decide +kernel, rfl, by decide +kernel, by decide +kernel⟩
theorem f_law_all_lots (D : DefAt K mg "_law_all_lots" sl_all_lots) (T : Txt K mg) (f_joined_by_lines : FnS P w K mg base CX0 1 "_law_joined_by_lines" ["_law_lines_here"] (spJoined K)) (f_many : FnS P w K mg base CX0 1 "_law_many" ["_law_letters", "_law_length"] spMany) (f_pairs : FnS P w K mg base CX0 1 "_law_pairs" ["_law_letters"] (spPairs K)) :
    FnS P w K mg base CX0 2 "_law_all_lots" ["_law_letters", "_law_lines_here"] (spAllLots K) :=
  mkFn D sc_all_lots (fun _ _ _ _ _ _ us hl => match us, hl with | [_, _], _ => rfl) (fun vs H Q E ⟨_, _, _, _, e, _⟩ => by rw [e]; rfl) fun cdv A outer s H vs Q E hr ⟨n, a, trs, ns, e, hlines, W, q⟩ => by
  subst e
  have big : 10000 < sizeLine := by decide
  have n5 := W.n5
  refine ⟨_, (pss_cons (ps_asg (pe_tup (pa_cons (pe_call f_joined_by_lines.ok (hr.mono (by decide)) rfl f_joined_by_lines.g f_joined_by_lines.kp f_joined_by_lines.b .nil pass0 (pa_cons (pv 1) pa_nil)) (pa_cons (pe_lst pa_nil) pa_nil))) (pg_tup rfl (pgs_cons (pg_name (i := 2) sc_all_lots.nd rfl (.inr rfl)) (pgs_cons (pg_name (i := 3) sc_all_lots.nd rfl (.inl rfl)) pgs_nil))))
      (pss_cons (ps_for (passes_of rfl) rfl (pi_range1 rfl T.range_ (pa_cons (pe_call f_many.ok (hr.mono (by decide)) rfl f_many.g f_many.kp f_many.b .nil pass0 (pa_cons pe_int (pa_cons (pv 0) pa_nil))) pa_nil)) (pg_name (i := 4) sc_all_lots.nd rfl (.inr rfl)) (pss_cons (ps_set (i := 5) sc_all_lots.nd rfl (.inr rfl) (pe_lc (own := [("_law_k", 6)]) (g := (gName 6)) rfl sc_all_lots.nd (pi_range1 rfl T.range_ (pa_cons (pv 0) pa_nil)) (blkOk_by (N := N_all_lots) (sc := defScope sl_all_lots) (by decide +kernel)) (fun _ _ _ _ _ => (pg_name (i := 6) sc_all_lots.nd rfl (.inl rfl))) (fun _ _ _ _ _ => (pts_one (pt_cmpR op_eq (pe_op op_mod (pe_op op_fdiv (pv 4) (pe_call f_many.ok (hr.mono (by decide)) rfl f_many.g f_many.kp f_many.b .nil pass0 (pa_cons pe_int (pa_cons (pv 6) pa_nil)))) pe_int) pe_int (nomark _)))) (fun _ _ _ _ _ => (pv 6))))
      (pss_one (ps_if (pt_val (pe_callB (cr_all rfl) (by rfl) T.all_ bo_all (pa_cons (pe_lc (own := [("_law_i", 7), ("_law_j", 8)]) (g := (gTup _ 2 (gCons (gName 7) (gCons (gName 8) gNil)))) rfl sc_all_lots.nd (pi_list (pe_call f_pairs.ok (hr.mono (by decide)) rfl f_pairs.g f_pairs.kp f_pairs.b .nil pass0 (pa_cons (pe_callB call_len_seq (by rfl) T.len_ bo_len (pa_cons (pv 5) pa_nil)) pa_nil))) (blkOk_by (N := N_all_lots) (sc := defScope sl_all_lots) (by decide +kernel)) (fun _ _ _ _ _ => (pg_tup rfl (pgs_cons (pg_name (i := 7) sc_all_lots.nd rfl (.inl rfl)) (pgs_cons (pg_name (i := 8) sc_all_lots.nd rfl (.inl rfl)) pgs_nil)))) (fun _ _ _ _ _ => pts_nil) (fun _ _ _ _ _ => (pe_cmpR ((op_inD (u65 hr)) : OpR _ _ (rInD K)) (pe_tup (pa_cons (pe_ix (ix_list : IxR _ (rIxL K)) (pv 5) (pv 7) (fun _ _ => rfl)) (pa_cons (pe_ix (ix_list : IxR _ (rIxL K)) (pv 5) (pv 8) (fun _ _ => rfl)) pa_nil))) (pv 2) rfl))) pa_nil))) (pss_one (ps_expr (pe_bm PySem.F.plainAttrs_list PySem.F.slot_list_append PySem.F.type_list_append mt_append (pv 3) (pa_cons (pe_callTy call_tuple_of (by rfl) T.tuple_ bo_tuple (pa_cons (pv 5) pa_nil)) pa_nil)))) pss_nil))))
      (pss_one (ps_ret (pe_callB (cr_sortTu hr.units) (by rfl) T.sorted_ bo_sorted (pa_cons (pv 3) pa_nil)))))), ?_⟩
  refine seq1 (asg1 ⟨_, rfl, a, trs, rfl, hlines, W.few, fun H1 dp s1 hdp tp ⟨xdp, edp⟩ => ⟨Nat.zero_le _, fun f hf => ⟨(by show 2 ≤ sizeLine; decide), fun t0 ht0 => ⟨t0, _, rfl, SqT.of upd_same, rfl, _, _, rfl, _, _, rfl, rfl, ?_⟩⟩⟩⟩)
  have s2 : Same H1 (upd (upd H1 f (.lst [])) t0 (.tup [.ref dp, .ref f])) := (Same.new hf).trans (Same.new ht0)
  have ef : (upd (upd H1 f (.lst [])) t0 (.tup [.ref dp, .ref f])) f = some (.lst []) := Same.new ht0 _ _ upd_same
  have pow5 : 2 ^ n ≤ 2 ^ 5 := Nat.pow_le_pow_right (by decide) n5
  dsimp only
  refine seq1 ⟨_, rfl, 2, n, rfl, by decide, by omega, fun H3 s3 => ⟨((2 ^ n : Nat) : Int), rfl, Int.le_trans (by decide) (Int.natCast_nonneg _), Int.lt_of_le_of_lt (Int.ofNat_le.mpr pow5) (by decide), ?_⟩⟩
  rw [Int.toNat_natCast]
  have f3 := s3 _ _ ef
  have hfH : H f = none := s1.free hf
  let ok : Nat → Bool := fun x => clB trs (bitsOf n x)
  refine for_walk (wk_range (n := 2 ^ n)) (fun i σ H' => ∃ (x4 x5 x6 x7 x8 : Option V) (ks : List (Addr × List Int)), σ = [some (.int (n : Nat)), some (.ref a), some (.ref dp), some (.ref f), x4, x5, x6, x7, x8] ∧ (∀ b o, b ≠ f → H3 b = some o → H' b = some o) ∧ H' f = some (.lst (ks.map fun p => V.ref p.1)) ∧ (∀ p ∈ ks, SqT K H' p.1 (p.2.map V.int)) ∧ ks.map (·.2) = ((List.range i).filter ok).map fun x => toI (bitsOf n x))
    ⟨_, _, _, _, _, [], rfl, fun b o _ h => h, f3, fun _ h => (by cases h), rfl⟩ (fun _ _ _ _ _ => True.intro) (fun i x σ H4 H5 hi ⟨x4, x5, x6, x7, x8, ks, eσ, k4, e4, t4, m4⟩ s5 it => ?_) fun σ H4 ⟨x4, x5, x6, x7, x8, ks, eσ, k4, e4, t4, m4⟩ => ?_
  · subst eσ it
    rw [show (0 : Int) + (i : Int) = (i : Int) by omega]
    have s23 := s2.trans s3
    have tp3 : TupsAt K H3 dp (bothP trs) := tp.mono s23
    have bt : But f H3 H5 := fun b o nb hb => s5 _ _ (k4 b o nb hb)
    have ndp : dp ≠ f := ne_of_none edp hf
    have tp5 : TupsAt K H5 dp (bothP trs) := tp3.but bt f3 ndp
    refine seq1 (asg1 ⟨_, rfl, (n : Nat), rfl, by omega, by omega, lc_walkF (wk_range (n := n)) (fun k => decide (i / 2 ^ k % 2 = 1)) (fun k => .int (k : Nat)) (by omega) True.intro (fun DD k x H6 C N hk it6 s6 hD6 ac6 kC kN => ?_) fun DD H6 s6 hD6 e6 => ?_⟩)
    · subst it6
      rw [show (0 : Int) + (k : Int) = (k : Int) by omega]
      have pk : 2 ^ k ≤ 2 ^ 5 := Nat.pow_le_pow_right (by decide) (by omega)
      have pk0 : 0 < 2 ^ k := Nat.pow_pos (by decide)
      refine ⟨rfl, _, rfl, _, rfl, 2, k, rfl, by decide, by omega, fun H7 s7 => ⟨_, _, rfl, rfl, ⟨by omega, by omega⟩, _, _, rfl, rfl, (show (0 : Int) < 2 by decide), rfl, _, rfl, ?_⟩⟩
      have e : (((i : Int) / ((2 ^ k : Nat) : Int)) % 2) = ((i / 2 ^ k % 2 : Nat) : Int) := rfl
      by_cases c : i / 2 ^ k % 2 = 1
      · refine iteT' (decide_eq_true (congrArg V.int (by rw [e, c]; rfl))) ⟨_, rfl, kC _ (decide_eq_true c) s7⟩
      · refine iteF' (decide_eq_false fun z => c ?_) (kN _ (decide_eq_false c) s7)
        have z := V.int.inj z
        rw [e] at z
        omega
    have el6 : H6 DD = some (.lst (natV (bitsOf n i))) := by rw [e6]; rfl
    have hDf : DD ≠ f := ne_of_none' (s5 _ _ e4) hD6
    have bl := bits_len n i
    have tp6 := tp5.mono s6
    dsimp only
    refine if1 ⟨_, rfl, DD, _, rfl, .inl (SqL.of el6), (bitsOf n i).length, ?_, by omega, fun H7 pl s7 hpl ⟨ks7, k71, k72, k73⟩ => ⟨pl, rfl, ⟨_, k71⟩, ?_⟩⟩
    · rw [List.length_map]; rfl
    have kl7 : ks7.length = (prsTo (bitsOf n i).length (bitsOf n i).length).length := by
      have := congrArg List.length k73
      rw [List.length_map, List.length_map] at this
      exact this
    have lp := prsTo_len (bitsOf n i).length (bitsOf n i).length
    have lpi : (bitsOf n i).length * (bitsOf n i).length ≤ 5 * 5 := Nat.mul_le_mul (by omega) (by omega)
    let V2 : Nat × Nat → Bool := fun p => jnB trs ((bitsOf n i).getD p.1 0) ((bitsOf n i).getD p.2 0)
    refine lc_walkV (wk_list (K := K) (xs := ks7.map fun p => V.ref p.1)) (fun j => V.bl (V2 ((prsTo (bitsOf n i).length (bitsOf n i).length).getD j (0, 0)))) (by rw [List.length_map]; omega) k71 (fun D8 j x H8 C hj it8 s8 hD8 ac8 kC => ?_) fun D8 H8 s8 hD8 e8 => ?_
    · have hj' : j < ks7.length := by
        rw [List.length_map] at hj
        exact hj
      obtain ⟨q1, eq1⟩ : ∃ q1, ks7[j]? = some q1 := ⟨_, List.getElem?_eq_getElem hj'⟩
      obtain ⟨ab, eab⟩ : ∃ ab, (prsTo (bitsOf n i).length (bitsOf n i).length)[j]? = some ab := ⟨_, List.getElem?_eq_getElem (by rw [← kl7]; exact hj')⟩
      have ex : x = V.ref q1.1 := by
        have h1 : (ks7.map fun p => V.ref p.1)[j]? = some x := it8
        rw [List.getElem?_map, eq1] at h1
        exact (Option.some.inj h1).symm
      subst ex
      have e2p : q1.2 = prI ab := by
        have h1 : (ks7.map (·.2))[j]? = some (prI ab) := by rw [k73, List.getElem?_map, eab]; rfl
        rw [List.getElem?_map, eq1] at h1
        exact Option.some.inj h1
      have hq : SqT K H8 q1.1 [.int (ab.1 : Nat), .int (ab.2 : Nat)] := by
        have := k72 q1 (List.mem_of_getElem? eq1)
        rw [e2p] at this
        exact s8.seqT this
      have egd : (prsTo (bitsOf n i).length (bitsOf n i).length).getD j (0, 0) = ab := by rw [List.getD_eq_getElem?_getD, eab]; rfl
      rw [egd] at kC
      have hab := prsTo_at _ _ (Nat.le_refl _) ab (List.mem_of_getElem? eab)
      have el8 : SqL K H8 DD (natV (bitsOf n i)) := SqL.of (s8 _ _ (s7 _ _ el6))
      have va : (natV (bitsOf n i))[ab.1]? = some (.int (((bitsOf n i).getD ab.1 0 : Nat) : Int)) := by
        rw [List.getElem?_map, List.getD_eq_getElem?_getD, List.getElem?_eq_getElem (by omega)]; rfl
      have vb : (natV (bitsOf n i))[ab.2]? = some (.int (((bitsOf n i).getD ab.2 0 : Nat) : Int)) := by
        rw [List.getElem?_map, List.getD_eq_getElem?_getD, List.getElem?_eq_getElem (by omega)]; rfl
      refine ⟨q1.1, _, rfl, hq, rfl, _, _, rfl, _, _, rfl, rfl, rfl, ?_⟩
      refine op1 ⟨_, rfl, _, rfl, DD, _, (ab.1 : Nat), _, rfl, rfl, el8, atI_nat va, _, rfl, _, rfl, DD, _, (ab.2 : Nat), _, rfl, rfl, el8, atI_nat vb, (by show 2 ≤ sizeLine; decide), fun t ht => ⟨_, rfl, in_tups (k := [(((bitsOf n i).getD ab.1 0 : Nat) : Int), (((bitsOf n i).getD ab.2 0 : Nat) : Int)]) (SqT.of upd_same) (((tp6.mono s7).mono s8).mono (Same.new ht)) ?_⟩⟩
      have ed : decide ([(((bitsOf n i).getD ab.1 0 : Nat) : Int), (((bitsOf n i).getD ab.2 0 : Nat) : Int)] ∈ bothP trs) = V2 ab := by
        show _ = jnB trs ((bitsOf n i).getD ab.1 0) ((bitsOf n i).getD ab.2 0)
        cases e : jnB trs ((bitsOf n i).getD ab.1 0) ((bitsOf n i).getD ab.2 0) with
        | true => exact decide_eq_true (both_mem.mpr e)
        | false => exact decide_eq_false fun z => by rw [both_mem.mp z] at e; cases e
      rw [ed]
      exact kC _ (Same.new ht)
    · have eb : ((List.range (ks7.map fun p => V.ref p.1).length).map fun j => V.bl (V2 ((prsTo (bitsOf n i).length (bitsOf n i).length).getD j (0, 0)))) = ((prsTo (bitsOf n i).length (bitsOf n i).length).map V2).map V.bl := by
        rw [List.length_map, kl7, List.map_map]
        exact range_map _ _ _ fun j p h => by rw [List.getD_eq_getElem?_getD, h]; rfl
      rw [eb] at e8
      refine ⟨D8, _, rfl, SqL.of e8, _, rfl, ?_⟩
      rw [show ((prsTo (bitsOf n i).length (bitsOf n i).length).map V2).all id = ok i from List.all_map]
      have bt8 : ∀ b o, b ≠ f → H3 b = some o → H8 b = some o := fun b o nb hb => s8 _ _ (s7 _ _ (s6 _ _ (bt b o nb hb)))
      have s58 := s6.trans (s7.trans s8)
      have f8 : H8 f = some (.lst (ks.map fun p => V.ref p.1)) := s58 _ _ (s5 _ _ e4)
      have t8 : ∀ p ∈ ks, SqT K H8 p.1 (p.2.map V.int) := fun p hp => (s5.trans s58).seqT (t4 p hp)
      have kl : ks.length ≤ 32 := by
        have h1 := congrArg List.length m4
        rw [List.length_map, List.length_map] at h1
        have h2 := List.length_filter_le ok (List.range i)
        rw [List.length_range] at h2
        omega
      show (if ok i = true then _ else _)
      by_cases c : ok i = true
      · rw [if_pos c]
        refine ⟨_, rfl, .inl ⟨rfl, _, SqL.of f8⟩, _, rfl, DD, _, rfl, .inl ⟨SqL.of (s8 _ _ (s7 _ _ el6)), fun t ht => ?_⟩⟩
        have ntf : t ≠ f := ne_of_none' f8 ht
        refine ⟨f, _, _, rfl, rfl, Same.new ht _ _ f8, by rw [List.length_map]; omega, _, _, _, _, _, ks ++ [(t, toI (bitsOf n i))], rfl, fun b o nb hb => ?_, by rw [upd_same, List.map_append]; rfl, fun p hp => ?_, ?_⟩
        · rw [upd_ne nb]
          exact Same.new ht _ _ (bt8 b o nb hb)
        · rcases List.mem_append.mp hp with z | z
          · have h8 := (Same.new (o := .tup (natV (bitsOf n i))) ht).seqT (t8 p z)
            rcases h8 with (h | ⟨o, h⟩) | h
            · exact .inl (.inl (by rw [upd_ne (ne_of h (Same.new ht _ _ f8) (by intro z; cases z))]; exact h))
            · exact .inl (.inr ⟨o, by rw [upd_ne (ne_of h (Same.new ht _ _ f8) (by intro z; cases z))]; exact h⟩)
            · exact .inr h
          · rw [List.mem_singleton.mp z]
            refine SqT.of ?_
            show upd (upd H8 t _) f _ t = _
            rw [upd_ne ntf, upd_same]
            rw [List.map_map]
            rfl
        · rw [List.map_append, m4, List.range_succ, List.filter_append, List.map_append]
          congr 1
          rw [List.filter_cons, if_pos c]
          rfl
      · rw [if_neg c]
        refine ⟨_, _, _, _, _, ks, rfl, bt8, f8, t8, ?_⟩
        rw [m4, List.range_succ, List.filter_append]
        have : [i].filter ok = [] := by rw [List.filter_cons, if_neg c]; rfl
        rw [this, List.append_nil]
  · subst eσ
    have m5 : ks.map (·.2) = (lotsTo (pairsOfT trs) n).map toI := by
      rw [m4, ← lots_bits W n, List.map_map]
      rfl
    have s04 : Same H H4 := fun b o hb => k4 b o (ne_of_none hb hfH) (s3 _ _ (s2 _ _ (s1 _ _ hb)))
    dsimp only
    refine ret1 (tcb1 ⟨_, rfl, ?_⟩)
    obtain ⟨r0, er⟩ := lotsTo_nil (pairsOfT trs) n
    obtain ⟨p0, kr, ek3⟩ : ∃ p0 kr, ks = p0 :: kr := by
      cases ks with
      | nil => rw [er] at m5; cases m5
      | cons a b => exact ⟨a, b, rfl⟩
    have ep0 : p0.2 = [] := by
      rw [er, ek3] at m5
      exact (List.cons.inj m5).1
    refine ⟨f, _, keyAt ks, V.ref p0.1, kr.map fun p => V.ref p.1, rfl, SqL.of e4, by rw [ek3]; rfl, by rw [ek3, keyAt_head]; exact ep0, fun x hx => ?_, fun ys p hp hn => ?_⟩
    · obtain ⟨k, hk, e⟩ := List.mem_map.mp hx
      subst e
      obtain ⟨k', hk', e1, e2'⟩ := keyAt_of hk
      refine ⟨k.1, rfl, ?_⟩
      rw [e2', ← e1]
      exact t4 k' hk'
    · obtain ⟨ks', pk, ey⟩ := perm_map_of hp (l := ks) (f := fun p => V.ref p.1) rfl
      obtain ⟨ls, pl, el⟩ := perm_map_of (pk.map (·.2)) (l := lotsTo (pairsOfT trs) n) (f := toI) m5
      exact q _ p ls (s04.trans (Same.new hn)) (s04.free hn) ⟨ks', by rw [← ey]; exact SqL.of upd_same, fun k hk => (Same.new hn).seqT (t4 k (pk.mem_iff.mp hk)), el⟩ pl
end
end Kz
end
section
set_option Elab.async false
set_option linter.all false
set_option maxRecDepth 100000
set_option maxHeartbeats 4000000
/-! the law's Euclid -/
namespace Kz
open PySem PySem.Spec PyProof.Rows L2 KzM
def FC : Nat → Nat
  | 0 => 70451
  | 1 => 11735
  | 2 => 2339
  | 3 => 575
  | 4 => 179
  | 5 => 71
  | _ => 35
theorem fc1 : ∀ la ∈ List.range 7, ∀ lb ∈ List.range 7, 1 ≤ lb → lb < la → FC la + (la + 1 - lb) * (FC lb + 1) ≤ FC (lb - 1) := by decide
theorem fc2 : ∀ la ∈ List.range 7, ∀ lb ∈ List.range 7, 1 ≤ lb → 35 + (la + 1 - lb) * (FC lb + 1) ≤ FC (lb - 1) := by decide
theorem fc3 : ∀ a ∈ List.range 7, ∀ b ∈ List.range 7, a ≤ b → FC b ≤ FC a := by decide
theorem fc4 (a : Nat) : FC a ≤ 70451 := by
  unfold FC
  split <;> decide
theorem fc6 (a : Nat) : 35 ≤ FC a := by
  unfold FC
  split <;> decide
/-- the law's Euclid under way -/
structure Eud (A B : Ser) (h t : List Int) : Prop where
  th : Trimd h
  tt : Trimd t
  nh : h ≠ []
  lh : h.length ≤ 6
  lt : t.length ≤ 6
  bt : Bits (FC t.length) t
  bh : (t.length < h.length ∧ Bits (FC h.length) h) ∨ Bits 35 h
  back : ∀ G : Ser, Div G (co h) → Div G (co t) → Div G A ∧ Div G B
theorem Eud.start {one other h t : List Int} (th : TrimOf one h) (tt : TrimOf other t) (l1 : one.length ≤ 6) (l2 : other.length ≤ 6) (b1 : Bits 35 one) (b2 : Bits 35 other) (z : co one 0 = 1) : Eud (co one) (co other) h t := by
  have e1 : co h = co one := funext th.co
  have e2 : co t = co other := funext tt.co
  have l3 := th.len
  have l4 := tt.len
  refine ⟨th.tr, tt.tr, fun q => ?_, by omega, by omega, Bits.mono (b2.trim tt) (fc6 _), .inr (b1.trim th), fun G h1 h2 => ?_⟩
  · have := th.co 0
    rw [q, z] at this
    cases this
  · rw [e1] at h1
    rw [e2] at h2
    exact ⟨h1, h2⟩
theorem Eud.ask {A B : Ser} {h t : List Int} (E : Eud A B h t) (nt : t ≠ []) : ∃ X, Bits X h ∧ X + (h.length + 1 - t.length) * (FC t.length + 1) ≤ FC (t.length - 1) := by
  have lp : 0 < t.length := List.length_pos_iff.mpr nt
  have l1 := E.lh
  have l2 := E.lt
  rcases E.bh with ⟨l, b⟩ | b
  · exact ⟨_, b, fc1 _ (List.mem_range.mpr (by omega)) _ (List.mem_range.mpr (by omega)) lp l⟩
  · exact ⟨35, b, fc2 _ (List.mem_range.mpr (by omega)) _ (List.mem_range.mpr (by omega)) lp⟩
theorem Eud.next {A B : Ser} {h t r : List Int} {X : Nat} (E : Eud A B h t) (nt : t ≠ []) (hX : X ≤ FC (t.length - 1)) (rel : LeftRel h t r) (rl : r.length < t.length) (rt : Trimd r) (rb : Bits X r) : Eud A B t r := by
  have l2 := E.lt
  exact ⟨E.tt, rt, nt, l2, by omega, Bits.mono rb (Nat.le_trans hX (fc3 _ (List.mem_range.mpr (by omega)) _ (List.mem_range.mpr (by omega)) (by omega))), .inl ⟨by omega, E.bt⟩, fun G h1 h2 => E.back G (div_step rel h1 h2) h1⟩
theorem Eud.fin {e : Int} (he : e * e = 1) {A B : Ser} {h : List Int} (E : Eud A B h []) (cp : CopP e 0 A B ∨ CopP e 0 B A) : h.length = 1 := by
  obtain ⟨d1, d2⟩ := E.back (co h) (Div.self _) (Div.zero _ fun k => rfl)
  obtain ⟨g, gz, eg⟩ := CopP.ends he cp (fin_co h) d1 d2 ⟨co h, h.length, fin_co h, fun k => (conv_one (co h) k).symm⟩
  exact pw_len he gz eg E.th
def spShare (K : PySem.W.Frag) : Sp := fun vs H Q _ => ∃ (a b : Addr) (one other : List Int) (e : Int), vs = [.ref a, .ref b] ∧ SqX K H a (one.map V.int) ∧ SqX K H b (other.map V.int) ∧ one.length ≤ 6 ∧ other.length ≤ 6 ∧ Bits 35 one ∧ Bits 35 other ∧ co one 0 = 1 ∧ e * e = 1 ∧ (CopP e 0 (co one) (co other) ∨ CopP e 0 (co other) (co one)) ∧ ∀ H', Same H H' → Q (.bl false) H'
section
variable {P : Program} {w : World} {K : PySem.W.Frag} {mg : Str → Option Value} {base : Heap}
abbrev N_share_part : List Str := ["_law_one", "_law_other", "_law_here", "_law_there", "_law_first", "_law_last", "_law_more", "_law_shifted_here", "_law_item", "_law_less"]
theorem sc_share_part : FnScope N_share_part ["_law_one", "_law_other"] (defScope sl_share_part) := ⟨rfl, rfl, rfl, by decide +kernel, rfl, by decide +kernel, by decide +kernel⟩
theorem f_law_share_part (D : DefAt K mg "_law_share_part" sl_share_part) (T : Txt K mg) (f_last_cut : FnS P w K mg base CX0 1 "_law_last_cut" ["_law_row"] (spTrimmed K)) : FnS P w K mg base CX0 2 "_law_share_part" ["_law_one", "_law_other"] (spShare K) :=
  mkFn D sc_share_part (fun _ _ _ _ _ _ us hl => match us, hl with | [_, _], _ => rfl) (fun vs H Q E ⟨_, _, _, _, _, e, _⟩ => by rw [e]; rfl) fun cdv A outer s H vs Q E hr ⟨a, b, one, other, e, ev, ha, hb, l1, l2, b1, b2, z1, he, cp, q⟩ => by
  subst ev
  have big : 20000 < sizeLine := by decide
  refine ⟨_, (pss_cons (ps_par (i := 2) (j := 3) rfl sc_share_part.nd rfl rfl (by decide) rfl rfl (pa_cons (pe_call f_last_cut.ok (hr.mono (by decide)) rfl f_last_cut.g f_last_cut.kp f_last_cut.b .nil pass0 (pa_cons (pv 0) pa_nil)) (pa_cons (pe_call f_last_cut.ok (hr.mono (by decide)) rfl f_last_cut.g f_last_cut.kp f_last_cut.b .nil pass0 (pa_cons (pv 1) pa_nil)) pa_nil)) (by rfl))
      (pss_cons (ps_while (passes_of rfl) (pt_cmpR (op_neD hr.units) (pv 3) (pe_lst pa_nil) (nomark _)) (pss_cons (ps_while (passes_of rfl) (pt_cmpR op_ge (pe_callB call_len_seq (by rfl) T.len_ bo_len (pa_cons (pv 2) pa_nil)) (pe_callB call_len_seq (by rfl) T.len_ bo_len (pa_cons (pv 3) pa_nil)) (nomark _)) (pss_cons (ps_asg (pe_tup (pa_cons (pe_ix ix_list (pv 3) (pe_un un_neg pe_int) (fun _ _ => rfl)) (pa_cons (pe_ix ix_list (pv 2) (pe_un un_neg pe_int) (fun _ _ => rfl)) (pa_cons (pe_op op_sub (pe_callB call_len_seq (by rfl) T.len_ bo_len (pa_cons (pv 2) pa_nil)) (pe_callB call_len_seq (by rfl) T.len_ bo_len (pa_cons (pv 3) pa_nil))) pa_nil)))) (pg_tup rfl (pgs_cons (pg_name (i := 4) sc_share_part.nd rfl (.inr rfl)) (pgs_cons (pg_name (i := 5) sc_share_part.nd rfl (.inr rfl)) (pgs_cons (pg_name (i := 6) sc_share_part.nd rfl (.inl rfl)) pgs_nil)))))
      (pss_cons (ps_set (i := 7) sc_share_part.nd rfl (.inl rfl) (pe_op op_cat (pe_op op_rep (pe_lst (pa_cons pe_int pa_nil)) (pv 6)) (pe_lc (own := [("_law_item", 8)]) (g := (gName 8)) rfl sc_share_part.nd (pi_list (pv 3)) (blkOk_by (N := N_share_part) (sc := defScope sl_share_part) (by decide +kernel)) (fun _ _ _ _ _ => (pg_name (i := 8) sc_share_part.nd rfl (.inl rfl))) (fun _ _ _ _ _ => pts_nil) (fun _ _ _ _ _ => (pe_op op_mulW (pv 8) (pv 5))))))
      (pss_one (ps_set (i := 2) sc_share_part.nd rfl (.inl rfl) (pe_call f_last_cut.ok (hr.mono (by decide)) rfl f_last_cut.g f_last_cut.kp f_last_cut.b .nil pass0 (pa_cons (pe_lc (own := [("_law_item", 8), ("_law_less", 9)]) (g := (gTup _ 2 (gCons (gName 8) (gCons (gName 9) gNil)))) rfl sc_share_part.nd (pi_zip (by rfl) T.zip_ (pa_cons (pv 2) (pa_cons (pv 7) pa_nil))) (blkOk_by (N := N_share_part) (sc := defScope sl_share_part) (by decide +kernel)) (fun _ _ _ _ _ => (pg_tup rfl (pgs_cons (pg_name (i := 8) sc_share_part.nd rfl (.inl rfl)) (pgs_cons (pg_name (i := 9) sc_share_part.nd rfl (.inl rfl)) pgs_nil)))) (fun _ _ _ _ _ => pts_nil) (fun _ _ _ _ _ => (pe_op op_sub (pe_op op_mulW (pv 8) (pv 4)) (pv 9)))) pa_nil)))))))
      (pss_one (ps_par (i := 2) (j := 3) rfl sc_share_part.nd rfl rfl (by decide) rfl rfl (pa_cons (pv 3) (pa_cons (pv 2) pa_nil)) (by rfl)))))
      (pss_one (ps_ret (pe_cmpR op_gt (pe_callB call_len_seq (by rfl) T.len_ bo_len (pa_cons (pv 2) pa_nil)) pe_int (nomark _)))))), ?_⟩
  refine seq1 ⟨_, rfl, a, one, rfl, ha, fun H1 d1 h0 s1 hd1 e1 t1 => ⟨_, rfl, b, other, rfl, s1.seqX hb, fun H2 d2 t0 s2 hd2 e2 t2 => ⟨_, _, rfl, ?_⟩⟩⟩
  refine seq1 ⟨fun m σ H' => ∃ (dh dt : Addr) (h t : List Int) (x4 x5 x6 x7 x8 x9 : Option V), m = t.length ∧ σ = [some (.ref a), some (.ref b), some (.ref dh), some (.ref dt), x4, x5, x6, x7, x8, x9] ∧ Same H H' ∧ H' dh = some (.lst (h.map V.int)) ∧ H' dt = some (.lst (t.map V.int)) ∧ Eud (co one) (co other) h t,
    ⟨_, d1, d2, h0, t0, _, _, _, _, _, _, rfl, rfl, s1.trans s2, s2 _ _ e1, e2, Eud.start t1 t2 l1 l2 b1 b2 z1⟩, ?_⟩
  rintro m σ H3 ⟨dh, dt, h, t, x4, x5, x6, x7, x8, x9, rfl, rfl, s3, eh, et, EE⟩
  refine ⟨_, rfl, Nat.zero_le _, fun o ho => ne_nilI (ns := t) (SqL.of (Same.new ho _ _ et)) (SqL.of upd_same) ⟨_, rfl, ?_⟩⟩
  have s4 : Same H3 (upd H3 o (.lst [])) := Same.new ho
  generalize upd H3 o (.lst []) = H4 at s4 ⊢
  have s04 := s3.trans s4
  have eh4 := s4 _ _ eh
  have et4 := s4 _ _ et
  by_cases nt : t = []
  · subst nt
    have lh := EE.fin he cp
    rw [decide_eq_true rfl]
    refine ⟨_, rfl, dh, _, rfl, .inl (SqL.of eh4), _, _, rfl, rfl, ?_⟩
    have : decide ((1 : Int) < (((h.map V.int).length : Nat) : Int)) = false := decide_eq_false (by rw [List.length_map]; omega)
    show Q (.bl (decide ((1 : Int) < (((h.map V.int).length : Nat) : Int)))) H4
    rw [this]
    exact q _ s04
  · rw [decide_eq_false nt]
    refine ⟨_, fun σ' H' h => h, ?_⟩
    obtain ⟨X, bX, hX⟩ := EE.ask nt
    have f0 := fc4 (t.length - 1)
    have f1 := fc4 t.length
    have l3 := EE.lh
    have l4 := EE.lt
    have ta := EE.th
    have tb := EE.tt
    have by_ := EE.bt
    have lpos : 0 < t.length := List.length_pos_iff.mpr nt
    generalize FC t.length = Y at hX f1 by_
    refine seq1 (while_own (fun σ H' => ∃ (d : Addr) (f : List Int) (s : Nat) (x4 x5 x6 x7 x8 x9 : Option V), σ = [some (.ref a), some (.ref b), some (.ref d), some (.ref dt), x4, x5, x6, x7, x8, x9] ∧ Same H4 H' ∧ H' d = some (.lst (f.map V.int)) ∧ LeftRel h t f ∧ Trimd f ∧ f.length + s ≤ h.length ∧ (s = 0 ∨ s + t.length ≤ h.length + 1) ∧ Bits (X + s * (Y + 1)) f)
      (fun σ H' => match σ with | [_, _, some (.ref d), _, _, _, _, _, _, _] => (match H' d with | some (.lst xs) => xs.length | _ => 0) | _ => 0)
      ⟨dh, h, 0, _, _, _, _, _, _, rfl, Same.refl _, eh4, left_refl _ _, ta, by omega, .inl rfl, by simpa using bX⟩ ?_)
    rintro σ H5 ⟨d, f, s, x4, x5, x6, x7, x8, x9, rfl, s5, hd1, rel, tf, ls, ls2, bf⟩
    have step : s + t.length ≤ h.length + 1 → X + s * (Y + 1) ≤ X + (h.length + 1 - t.length) * (Y + 1) := fun h => Nat.add_le_add_left (Nat.mul_le_mul_right _ (by omega)) _
    have et5 := s5 _ _ et4
    refine ⟨_, rfl, d, _, rfl, .inl (SqL.of hd1), _, rfl, dt, _, rfl, .inl (SqL.of et5), _, _, rfl, rfl, _, rfl, ite2 (fun e => ?_) fun e => ?_⟩
    · have ge : t.length ≤ f.length := by
        have := of_decide_eq_true e
        rw [List.length_map, List.length_map] at this
        omega
      have nf : f ≠ [] := fun z => by
        rw [z, List.length_nil] at ge
        omega
      have bF : X + s * (Y + 1) + (Y + 1) ≤ X + (h.length + 1 - t.length) * (Y + 1) := by
        have : (s + 1) * (Y + 1) ≤ (h.length + 1 - t.length) * (Y + 1) := Nat.mul_le_mul_right _ (by omega)
        rw [Nat.add_mul, Nat.one_mul] at this
        omega
      refine ⟨_, whN, ?_⟩
      refine seq1 (asg1 ⟨_, rfl, 1, rfl, dt, _, -1, _, rfl, rfl, SqL.of et5, map_last nt, _, rfl, 1, rfl, d, _, -1, _, rfl, rfl, SqL.of hd1, map_last nf, _, rfl, d, _, rfl, .inl (SqL.of hd1), _, rfl, dt, _, rfl, .inl (SqL.of et5), _, _, rfl, rfl, (by show 3 ≤ sizeLine; decide), fun tu htu => ?_⟩)
      refine ⟨tu, _, rfl, SqT.of upd_same, rfl, _, _, rfl, _, _, rfl, _, _, rfl, rfl, ?_⟩
      generalize hhe : co f (f.length - 1) = here at htu ⊢
      generalize hth : co t (t.length - 1) = there at htu ⊢
      have thnz : there ≠ 0 := by rw [← hth]; exact tb nt
      have bhe : here.natAbs < 2 ^ (X + s * (Y + 1)) := by rw [← hhe]; exact bf _
      have bth : there.natAbs < 2 ^ Y := by rw [← hth]; exact by_ _
      have emore : V.int ((((f.map V.int).length : Nat) : Int) - (((t.map V.int).length : Nat) : Int)) = V.int ((f.length - t.length : Nat) : Int) := by
        rw [List.length_map, List.length_map, show ((f.length : Int) - (t.length : Int)) = ((f.length - t.length : Nat) : Int) by omega]
      have s6 : Same H5 (upd H5 tu (.tup [.int there, .int here, .int ((((f.map V.int).length : Nat) : Int) - (((t.map V.int).length : Nat) : Int))])) := Same.new htu
      generalize upd H5 tu (.tup [.int there, .int here, .int ((((f.map V.int).length : Nat) : Int) - (((t.map V.int).length : Nat) : Int))]) = H6 at s6 ⊢
      have et6 := s6 _ _ et5
      have hd6 := s6 _ _ hd1
      dsimp only
      refine seq1 (asg1 (op1 (op1 ⟨(by show 1 ≤ sizeLine; decide), fun o2 ho2 => ⟨_, rfl, o2, ((f.length - t.length : Nat) : Int), _, rfl, emore, upd_same, by omega, by omega, ?_, fun p hp => ?_⟩⟩)))
      · show 1 * ((f.length - t.length : Nat) : Int).toNat ≤ sizeLine
        rw [Int.toNat_natCast]
        omega
      rw [Int.toNat_natCast, rep_zero]
      have s7 : Same H6 (upd (upd H6 o2 (.lst [.int 0])) p (.lst ((List.replicate (f.length - t.length) (0 : Int)).map V.int))) := (Same.new ho2).trans (Same.new hp)
      have hp7 : (upd (upd H6 o2 (.lst [.int 0])) p (.lst ((List.replicate (f.length - t.length) (0 : Int)).map V.int))) p = some (.lst ((List.replicate (f.length - t.length) (0 : Int)).map V.int)) := upd_same
      generalize (upd (upd H6 o2 (.lst [.int 0])) p (.lst ((List.replicate (f.length - t.length) (0 : Int)).map V.int))) = H7 at s7 hp7 ⊢
      refine lcL_V (K := K) (fun i => .int (co t i * here)) (fun R h => ⟨_, rfl, h⟩) (SqL.of (s7 _ _ et6)) (by rw [List.length_map]; omega) (fun D i x H' C hi hx s8 hD ac k => ?_) fun D H8 s8 hD e8 => ?_
      · obtain ⟨rfl, _, _⟩ := int_at hx
        exact ⟨rfl, _, rfl, _, rfl, _, _, rfl, rfl, bits_wide (by_ i) bhe (by omega), k _ (Same.refl _)⟩
      rw [List.length_map] at e8
      have eg : (List.range t.length).map (fun i => V.int (co t i * here)) = ((List.range t.length).map fun i => co t i * here).map V.int := by rw [List.map_map]; rfl
      rw [eg] at e8
      have hp8 := s8 _ _ hp7
      refine ⟨p, D, _, _, rfl, rfl, hp8, e8, by rw [List.length_map, List.length_map, List.length_replicate, List.length_map, List.length_range]; omega, fun p2 hp2 => ?_⟩
      rw [← List.map_append]
      obtain ⟨sh, esh⟩ : ∃ sh, sh = List.replicate (f.length - t.length) (0 : Int) ++ (List.range t.length).map fun i => co t i * here := ⟨_, rfl⟩
      have lsh : sh.length = f.length := by rw [esh, List.length_append, List.length_replicate, List.length_map, List.length_range]; omega
      have csh : ∀ n, co sh n = if f.length - t.length ≤ n then here * co t (n - (f.length - t.length)) else 0 := fun n => by
        unfold co
        rw [esh, List.getD_eq_getElem?_getD]
        by_cases hn : f.length - t.length ≤ n
        · rw [if_pos hn, List.getElem?_append_right (by rw [List.length_replicate]; exact hn), List.length_replicate]
          by_cases h2 : n - (f.length - t.length) < t.length
          · rw [List.getElem?_map, List.getElem?_range h2]
            show co t _ * here = here * co t _
            rw [Int.mul_comm]
          · rw [List.getElem?_eq_none (by rw [List.length_map, List.length_range]; omega)]
            have : co t (n - (f.length - t.length)) = 0 := co_out (by omega)
            show (0 : Int) = here * co t (n - (f.length - t.length))
            rw [this, Int.mul_zero]
        · rw [if_neg hn, List.getElem?_append_left (by rw [List.length_replicate]; omega), List.getElem?_replicate, if_pos (by omega)]
          rfl
      rw [← esh]
      have s9 : Same H8 (upd H8 p2 (.lst (sh.map V.int))) := Same.new hp2
      have hsh9 : (upd H8 p2 (.lst (sh.map V.int))) p2 = some (.lst (sh.map V.int)) := upd_same
      generalize upd H8 p2 (.lst (sh.map V.int)) = H9 at s9 hsh9 ⊢
      have s69 := s7.trans (s8.trans s9)
      have hd9 := s69 _ _ hd6
      dsimp only
      refine asg1 ⟨_, rfl, _, rfl, d, p2, _, _, rfl, SqL.of hd9, SqL.of hsh9, lc_walkV (wk_zip (K := K) (xs := f.map V.int) (ys := sh.map V.int) (by rw [List.length_map, List.length_map]; omega)) (fun k => .int (co f k * there - co sh k)) (by rw [List.length_map]; omega) ⟨SqL.of hd9, SqL.of hsh9⟩
        (fun D3 k x H' C hk it s10 hD ac kC => ?_) fun D3 H10 s10 hD10 e10 => ?_⟩
      · obtain ⟨t3, x1, y1, rfl, ht3, hx, hy⟩ := it
        obtain ⟨rfl, _, _⟩ := int_at hx
        obtain ⟨rfl, _, _⟩ := int_at hy
        exact ⟨t3, _, rfl, SqT.of ht3, rfl, _, _, rfl, _, _, rfl, rfl, rfl, _, rfl, _, rfl, _, _, rfl, rfl, bits_wide (bf k) bth (by omega), _, rfl, _, _, rfl, rfl, kC _ (Same.refl _)⟩
      · rw [List.length_map] at e10
        have eg2 : (List.range f.length).map (fun k => V.int (co f k * there - co sh k)) = ((List.range f.length).map fun k => co f k * there - co sh k).map V.int := by rw [List.map_map]; rfl
        rw [eg2] at e10
        obtain ⟨g, eg3⟩ : ∃ g, g = (List.range f.length).map fun k => co f k * there - co sh k := ⟨_, rfl⟩
        have lg : g.length = f.length := by rw [eg3, List.length_map, List.length_range]
        have gr : ∀ n, co g n = there * co f n - if f.length - t.length ≤ n then here * co t (n - (f.length - t.length)) else 0 := fun n => by
          by_cases hn : n < f.length
          · rw [← csh, eg3, co_at (z := co f n * there - co sh n) (by rw [List.getElem?_map, List.getElem?_range hn]; rfl), Int.mul_comm]
          · rw [co_out (by omega), co_out (l := f) (by omega), Int.mul_zero, if_pos (by omega)]
            have : co t (n - (f.length - t.length)) = 0 := co_out (by omega)
            rw [this, Int.mul_zero]
            rfl
        rw [← eg3] at e10
        refine ⟨D3, g, rfl, .inl (SqL.of e10), fun H11 d6 r s11 hd6' e11 tr => ?_⟩
        have gtop : co g (f.length - 1) = 0 := by
          rw [gr, if_pos (by omega), show f.length - 1 - (f.length - t.length) = t.length - 1 by omega, hth, hhe, Int.mul_comm]
          omega
        have rl : r.length < f.length := by
          have h1 := tr.len
          refine Decidable.byContradiction fun z => ?_
          have e : r.length = f.length := by omega
          have nr : r ≠ [] := fun q => by rw [q] at e; exact nf (List.eq_nil_of_length_eq_zero e.symm)
          have := tr.tr nr
          rw [tr.co, e, gtop] at this
          exact this rfl
        have bg : Bits (X + s * (Y + 1) + (Y + 1)) g := fun n => by
          rw [gr]
          have h1 : (there * co f n).natAbs < 2 ^ (X + s * (Y + 1) + Y) := by
            rw [Int.mul_comm]
            exact wide_lt (bf n) bth
          have h2 : (if f.length - t.length ≤ n then here * co t (n - (f.length - t.length)) else 0).natAbs < 2 ^ (X + s * (Y + 1) + Y) := by
            split
            · exact wide_lt bhe (by_ _)
            · exact Nat.pow_pos (by decide)
          exact bits_sub h1 h2
        refine ⟨⟨d6, r, s + 1, _, _, _, _, _, _, rfl, (s5.trans s6).trans (s69.trans (s10.trans s11)), e11, left_step' rel thnz gr tr.co, tr.tr, by omega, .inr (by omega), ?_⟩, ?_⟩
        · refine Bits.mono (bg.trim tr) ?_
          rw [Nat.add_mul, Nat.one_mul]
          omega
        · show (match H11 d6 with | some (.lst xs) => xs.length | _ => 0) < (match H5 d with | some (.lst xs) => xs.length | _ => 0)
          rw [e11, hd1]
          show (r.map V.int).length < (f.map V.int).length
          rw [List.length_map, List.length_map]
          exact rl
    · have lt : f.length < t.length := by
        have : ¬ (((t.map V.int).length : Int) ≤ ((f.map V.int).length : Int)) := fun z => e (decide_eq_true z)
        rw [List.length_map, List.length_map] at this
        omega
      have bs : Bits (X + (h.length + 1 - t.length) * (Y + 1)) f := by
        rcases ls2 with z | z
        · subst z
          exact Bits.mono bf (by rw [Nat.zero_mul]; omega)
        · exact Bits.mono bf (step z)
      dsimp only
      refine ⟨_, rfl, _, rfl, _, _, rfl, _, lt, dt, d, t, f, _, _, _, _, _, _, rfl, rfl, s04.trans s5, et5, hd1, EE.next nt hX rel lt tf bs⟩
end
end Kz
end
section
set_option Elab.async false
set_option linter.all false
set_option maxRecDepth 100000
set_option maxHeartbeats 4000000
/-! the law's look at a fraction -/
namespace Kz
open PySem PySem.Spec PyProof.Rows L2 KzM
/-- a fraction that is the least one of the numbers -/
structure FracOk (m : Nat) (r1 r2 nums : List Int) (most : Nat) : Prop where
  l1 : r1.length ≤ most
  l2 : r2.length ≤ most
  t1 : Trimd r1
  t2 : Trimd r2
  z1 : co r1 0 = 1
  z2 : co r2 0 = 1
  b1 : Bits 35 r1
  b2 : Bits 35 r2
  cop : ∃ e : Int, e * e = 1 ∧ (CopP e 0 (co r1) (co r2) ∨ CopP e 0 (co r2) (co r1))
  un : ∀ k, k ≤ m → conv (co r2) (co nums) k = co r1 k
def spIsFraction (K : PySem.W.Frag) : Sp := fun vs H Q _ => ∃ (t nl : Addr) (r1 r2 nums : List Int) (most m : Nat), vs = [.ref t, .ref nl, .int (most : Nat)] ∧ FracAt K H t r1 r2 ∧ SqL K H nl (nums.map V.int) ∧ nums.length = m + 1 ∧ m ≤ 20 ∧ most ≤ 6 ∧ FracOk m r1 r2 nums most ∧ ∀ H', Same H H' → Q (.bl true) H'
theorem nz_len {l : List Int} (z : co l 0 = 1) : l ≠ [] := fun q => by
  rw [q] at z
  cases z
section
variable {P : Program} {w : World} {K : PySem.W.Frag} {mg : Str → Option Value} {base : Heap}
abbrev N_is_fraction : List Str := ["_law_thing", "_law_numbers_here", "_law_most", "_law_part", "_law_item"]
theorem sc_is_fraction : FnScope N_is_fraction ["_law_thing", "_law_numbers_here", "_law_most"] (defScope sl_is_fraction) := ⟨rfl, rfl, rfl, by decide +kernel, rfl, by decide +kernel, by decide +kernel⟩
theorem f_law_is_fraction (D : DefAt K mg "_law_is_fraction" sl_is_fraction) (T : Txt K mg) (f_unrolled : FnS P w K mg base CX0 1 "_law_unrolled" ["_law_over_here", "_law_below_here", "_law_most"] (spUnrolled K)) (f_share_part : FnS P w K mg base CX0 2 "_law_share_part" ["_law_one", "_law_other"] (spShare K)) :
    FnS P w K mg base CX0 3 "_law_is_fraction" ["_law_thing", "_law_numbers_here", "_law_most"] (spIsFraction K) :=
  mkFn D sc_is_fraction (fun _ _ _ _ _ _ us hl => match us, hl with | [_, _, _], _ => rfl) (fun vs H Q E ⟨_, _, _, _, _, _, _, e, _⟩ => by rw [e]; rfl) fun cdv A outer s H vs Q E hr ⟨t, nl, r1, r2, nums, most, m, e, ⟨t0, t1, ht, h0, h1⟩, hn, ln, m20, most6, F, q⟩ => by
  subst e
  have big : 20000 < sizeLine := by decide
  refine ⟨_, (pss_cons (ps_if (PW.pt (pw_or (pt_not (pt_val (pe_callB call_isi (by rfl) T.isinstance_ bo_isinstance (pa_cons (pv 0) (pa_cons (pe_bltn (v := .ty "tuple") (by rfl) T.tuple_ bo_tuple rfl) pa_nil))))) (pw_or1 (pt_cmpR op_ne (pe_callB call_len_seq (by rfl) T.len_ bo_len (pa_cons (pv 0) pa_nil)) pe_int (nomark _))))) (pss_one (ps_ret pe_bl)) pss_nil)
      (pss_cons (ps_for (passes_of rfl) rfl (pi_tup (pv 0)) (pg_name (i := 3) sc_is_fraction.nd rfl (.inl rfl)) (pss_cons (ps_if (PW.pt (pw_or (pt_not (pt_val (pe_callB call_isi (by rfl) T.isinstance_ bo_isinstance (pa_cons (pv 3) (pa_cons (pe_bltn (v := .ty "tuple") (by rfl) T.tuple_ bo_tuple rfl) pa_nil))))) (pw_or (pt_not (pt_chain op_le op_le pe_int (pe_callB call_len_seq (by rfl) T.len_ bo_len (pa_cons (pv 3) pa_nil)) (pv 2))) (pw_or (pt_cmpR op_eq (pe_ix ix_tup (pv 3) (pe_un un_neg pe_int) (fun _ _ => rfl)) pe_int (nomark _)) (pw_or1 (pt_cmpR op_ne (pe_ix ix_tup (pv 3) pe_int (fun _ _ => rfl)) pe_int (nomark _))))))) (pss_one (ps_ret pe_bl)) pss_nil)
      (pss_one (ps_if (pt_not (pt_val (pe_callB (cr_all rfl) (by rfl) T.all_ bo_all (pa_cons (pe_lc (own := [("_law_item", 4)]) (g := (gName 4)) rfl sc_is_fraction.nd (pi_tup (pv 3)) (blkOk_by (N := N_is_fraction) (sc := defScope sl_is_fraction) (by decide +kernel)) (fun _ _ _ _ _ => (pg_name (i := 4) sc_is_fraction.nd rfl (.inl rfl))) (fun _ _ _ _ _ => pts_nil) (fun _ _ _ _ _ => (pe_and (pe_callB (call_isi : CallR _ _ (rIsi K)) (by rfl) T.isinstance_ bo_isinstance (pa_cons (pv 4) (pa_cons (pe_bltn (v := .ty "int") (by rfl) T.int_ bo_int rfl) pa_nil))) (pe_one (pe_not (pe_callB (call_isi : CallR _ _ (rIsi K)) (by rfl) T.isinstance_ bo_isinstance (pa_cons (pv 4) (pa_cons (pe_bltn (v := .ty "bool") (by rfl) T.bool_ bo_bool rfl) pa_nil)))))))) pa_nil)))) (pss_one (ps_ret pe_bl)) pss_nil))))
      (pss_cons (ps_if (pt_cmpR (op_neD hr.units) (pe_call f_unrolled.ok (hr.mono (by decide)) rfl f_unrolled.g f_unrolled.kp f_unrolled.b .nil pass0 (pa_cons (pe_ix ix_tup (pv 0) pe_int (fun _ _ => rfl)) (pa_cons (pe_ix ix_tup (pv 0) pe_int (fun _ _ => rfl)) (pa_cons (pe_op op_sub (pe_callB call_len_seq (by rfl) T.len_ bo_len (pa_cons (pv 1) pa_nil)) pe_int) pa_nil)))) (pv 1) (nomark _)) (pss_one (ps_ret pe_bl)) pss_nil)
      (pss_one (ps_ret (pe_not (pe_call f_share_part.ok (hr.mono (by decide)) rfl f_share_part.g f_share_part.kp f_share_part.b .nil pass0 (pa_cons (pe_ix ix_tup (pv 0) pe_int (fun _ _ => rfl)) (pa_cons (pe_ix ix_tup (pv 0) pe_int (fun _ _ => rfl)) pa_nil))))))))), ?_⟩
  refine seq1 (if1 ⟨_, rfl, .ref t, .ty "tuple", .type "tuple", .type "tuple", true, rfl, .ty _, kt_tup_of ht, kit_ty (by decide +kernel), true, rfl, _, rfl, t, _, rfl, .inr ht, rfl, _, rfl, ?_⟩)
  refine iteF' rfl ?_
  dsimp only [tNext]
  refine seq1 ⟨_, rfl, t, rfl, ⟨_, ht⟩, ?_⟩
  have lx1 := F.l1
  have lx2 := F.l2
  have np1 := nz_len F.z1
  have np2 := nz_len F.z2
  refine for_walk (wk_tup (K := K) (xs := [V.ref t0, V.ref t1])) (fun i σ H' => ∃ x3 x4 : Option V, σ = [some (.ref t), some (.ref nl), some (.int (most : Nat)), x3, x4] ∧ Same H H') ⟨_, _, rfl, Same.refl _⟩ (fun _ _ _ _ ⟨_, _, _, s1⟩ => s1.seqT ht) (fun i x σ H3 H4 hi ⟨x3, x4, eσ, s3⟩ s4 it => ?_) fun σ H3 ⟨x3, x4, eσ, s3⟩ => ?_
  · subst eσ
    have row : ∃ (ta : Addr) (r : List Int), x = .ref ta ∧ SqT K H4 ta (r.map V.int) ∧ r.length ≤ most ∧ r ≠ [] ∧ co r (r.length - 1) ≠ 0 ∧ co r 0 = 1 := by
      have it : ([V.ref t0, V.ref t1])[i]? = some x := it
      have s34 := s3.trans s4
      match i, it with
      | 0, it => exact ⟨t0, r1, (Option.some.inj it).symm, s34.seqT h0, lx1, np1, F.t1 np1, F.z1⟩
      | 1, it => exact ⟨t1, r2, (Option.some.inj it).symm, s34.seqT h1, lx2, np2, F.t2 np2, F.z2⟩
    obtain ⟨ta, r, rfl, hta, lr, nr, rl, rz⟩ := row
    have lp : 0 < r.length := List.length_pos_iff.mpr nr
    dsimp only
    refine seq1 (if1 ⟨_, rfl, .ref ta, .ty "tuple", .type "tuple", .type "tuple", true, rfl, .ty _, kt_tup_of hta, kit_ty (by decide +kernel), true, rfl, _, rfl, ta, _, rfl, .inr hta, _, _, rfl, rfl, _, rfl, ?_⟩)
    refine iteT' (decide_eq_true (by rw [List.length_map]; omega)) ⟨_, rfl, _, _, rfl, rfl, _, rfl, iteF' (by rw [decide_eq_true (by rw [List.length_map]; omega)]; rfl) ?_⟩
    refine ⟨_, rfl, 1, rfl, ta, _, -1, _, rfl, rfl, hta, map_last nr, rfl, _, rfl, iteF' (decide_eq_false fun z => rl (V.int.inj z)) ?_⟩
    refine ⟨_, rfl, ta, _, (0 : Nat), _, rfl, rfl, hta, atI_nat (j := 0) (map_at lp), rfl, _, rfl, iteF' (by rw [rz]; rfl) ?_⟩
    dsimp only [tNext]
    refine if1 ⟨_, rfl, ta, rfl, ⟨_, hta⟩, lc_walkV (wk_tup (K := K) (xs := r.map V.int)) (fun _ => .bl true) (by rw [List.length_map]; omega) hta (fun D2 k x H5 C hk it5 s5 hD5 ac5 kC => ?_) fun D2 H5 s5 hD5 e5 => ?_⟩
    · obtain ⟨rfl, _, _⟩ := int_at it5
      refine ⟨rfl, _, rfl, .int (co r k), .ty "int", .type "int", .type "int", true, rfl, .ty _, .base (.int _), kit_ty (by decide +kernel), true, rfl, iteT' rfl ⟨_, rfl, .int (co r k), .ty "bool", .type "int", .type "bool", false, rfl, .ty _, .base (.int _), kit_ty (by decide +kernel), false, rfl, kC _ (Same.refl _)⟩⟩
    · have eb : ((List.range (r.map V.int).length).map fun _ => V.bl true) = (List.replicate r.length true).map V.bl := by
        rw [List.length_map, List.map_replicate]
        exact List.ext_getElem (by simp) fun i h1 h2 => by simp
      rw [eb] at e5
      refine ⟨D2, _, rfl, SqL.of e5, _, rfl, iteF' (by simp) ?_⟩
      exact ⟨_, _, rfl, s3.trans (s4.trans s5)⟩
  · subst eσ
    dsimp only
    have em : V.int ((((nums.map V.int).length : Nat) : Int) - 1) = V.int (m : Nat) := by rw [List.length_map, ln, show (((m + 1 : Nat) : Int) - 1) = (m : Int) by omega]
    refine seq1 (if1 ⟨_, rfl, t, _, (0 : Nat), _, rfl, rfl, s3.seqT ht, atI_nat (j := 0) rfl, _, rfl, t, _, (1 : Nat), _, rfl, rfl, s3.seqT ht, atI_nat (j := 1) rfl, _, rfl, nl, _, rfl, .inl (s3.seq hn), _, _, rfl, rfl, t0, t1, r1, r2, m, ?_, .inr (s3.seqT h0), .inr (s3.seqT h1), F.z2, F.b2.mono (by decide), by omega, by omega, fun H5 d r s5 hd e5 lr5 hr5 => ⟨_, rfl, ne_lists (SqL.of e5) ((s3.trans s5).seq hn) ⟨_, rfl, iteF' ?_ ?_⟩⟩⟩)
    · show [V.ref t0, V.ref t1, V.int ((((nums.map V.int).length : Nat) : Int) - 1)] = _
      rw [em]
    · have : r = nums := by
        refine co_ext (by omega) fun k => ?_
        by_cases hk : k ≤ m
        · exact conv_cancel (f := co r2) F.z2 (g := co r) (h := co nums) (m := m) (fun i hi => by rw [hr5 i hi, F.un i hi]) k hk
        · rw [co_out (by omega), co_out (by omega)]
      rw [decide_eq_true this]
      rfl
    · dsimp only [tNext]
      obtain ⟨e, he, cp⟩ := F.cop
      have s05 := s3.trans s5
      exact ret1 ⟨_, rfl, t, _, (0 : Nat), _, rfl, rfl, s05.seqT ht, atI_nat (j := 0) rfl, _, rfl, t, _, (1 : Nat), _, rfl, rfl, s05.seqT ht, atI_nat (j := 1) rfl, t0, t1, r1, r2, e, rfl, .inr (s05.seqT h0), .inr (s05.seqT h1), by omega, by omega, F.b1, F.b2, F.z1, he, cp, fun H6 s6 => ⟨_, rfl, q _ (s05.trans s6)⟩⟩
end
end Kz
end
section
set_option Elab.async false
set_option linter.all false
set_option maxRecDepth 100000
set_option maxHeartbeats 4000000
/-! the law's counts -/
namespace Kz
open PySem PySem.Spec PyProof.Rows L2 KzM
/-- a comprehension without a test that draws on -/
theorem lc_walkA {J : It} {n : Nat} {itm : Nat → V → Hp → Prop} {Ok : Hp → Prop} {g : TG} {te : TE} {vs : List Nat} {σ : L2.St} {H : Hp} {Qd : Addr → Hp → Prop} {d la ca : Addr} (wk : Walks J n itm Ok) (hd : Drw H d la ca) (Elt : Addr → Nat → V → Hp → Prop)
    (stab : ∀ D i y H1 H2, (∀ b o, b ≠ D → b ≠ d → b ≠ la → H1 b = some o → H2 b = some o) → Elt D i y H1 → Elt D i y H2) (hz : n < sizeLine) (hOk : ∀ H', Drn d la ca H H' → Ok H')
    (step : ∀ D i x H' (C : VK), i < n → itm i x H' → Drn d la ca H H' → H D = none → D ≠ d → D ≠ la → (∃ acc, H' D = some (.lst acc)) → (∀ y H4, Drn d la ca H' H4 → Elt D i y H4 → C y H4) →
      g x (wipe σ vs) H' fun σ2 H2 => wipe σ2 vs = wipe σ vs ∧ te σ2 H2 C)
    (done : ∀ D H' ys, Drn d la ca H H' → H D = none → D ≠ d → D ≠ la → H' D = some (.lst ys) → Paired (fun i y => Elt D i y H') (List.range n) ys → Qd D H') :
    ∀ D, H D = none → ∃ W : Nat → Nat → Hp → Prop, (∃ m, W 0 m (upd H D (.lst []))) ∧ ∀ i m H, W i m H →
      (J.stop i H ∧ Qd D H) ∨ (J.go i H ∧ ∃ Nx : Hp → Prop, (∀ H', Nx H' → ∃ m', m' < m ∧ W (i + 1) m' H') ∧ ∀ x H', J.yld i H x H' → g x (wipe σ vs) H' fun σ2 H2 => wipe σ2 vs = wipe σ vs ∧ tYes σ2 H2 fun b H3 =>
        if b = true then te σ2 H3 fun y H4 => ∃ acc, H4 D = some (.lst acc) ∧ acc.length < sizeLine ∧ Nx (upd H4 D (.lst (acc ++ [y]))) else Nx H3) := by
  intro D hD
  have nD := hd.new hD
  let Pv : Nat → Hp → Prop := fun i H' => Drn d la ca H H' ∧ ∃ ys, H' D = some (.lst ys) ∧ Paired (fun j y => Elt D j y H') (List.range i) ys
  refine ⟨fun i m H' => m = n - i ∧ i ≤ n ∧ Pv i H', ⟨n, by simp, Nat.zero_le _, .of hd (Same.new hD), [], upd_same, .nil⟩, ?_⟩
  rintro i m H1 ⟨rfl, hi, d1, ys, e1, r1⟩
  have ok1 := hOk _ d1
  by_cases hlt : i < n
  · refine .inr ⟨wk.go i H1 hlt ok1, Pv (i + 1), fun H' p' => ⟨n - (i + 1), by omega, rfl, hlt, p'⟩, fun x H2 y => ?_⟩
    obtain ⟨it, s2⟩ := wk.yld i H1 x H2 hlt ok1 y
    have d2 := d1.same s2
    have keep : ∀ H4, Drn d la ca H2 H4 → H4 D = some (.lst ys) := fun H4 d4 => d4.keep (s2 _ _ e1) nD.1 nD.2.1
    have fr : ∀ H4, Drn d la ca H2 H4 → ∀ b o, b ≠ d → b ≠ la → H1 b = some o → H4 b = some o := fun H4 d4 b o n1 n2 hb => d4.keep (s2 _ _ hb) n1 n2
    refine step D i x H2 (fun y H4 => ∃ acc, H4 D = some (.lst acc) ∧ acc.length < sizeLine ∧ Pv (i + 1) (upd H4 D (.lst (acc ++ [y])))) hlt it d2 hD nD.1 nD.2.1 ⟨ys, s2 _ _ e1⟩ (fun y H4 d4 el => ?_)
    have len : ys.length ≤ n := by
      rw [← paired_len r1, List.length_range]
      exact hi
    have d14 := d2.trans d4
    refine ⟨ys, keep _ d4, by omega, ⟨fun b o hb => ?_, ?_⟩, _, upd_same, ?_⟩
    · have n3 : b ≠ D := ne_of_none (out_in _ _ hb) hD
      have n4 := out_ne hb
      exact out_of (by rw [upd_ne n3]; exact out_in _ _ (d14.1 _ _ hb)) n4.1 n4.2
    · obtain ⟨r, t, lg, cs, h1, h2, h3, h4⟩ := d4.2
      exact ⟨r, t, lg, cs, by rw [upd_ne nD.1.symm]; exact h1, by rw [upd_ne nD.2.1.symm]; exact h2, by rw [upd_ne nD.2.2.symm]; exact h3, h4⟩
    · rw [List.range_succ]
      refine paired_app (paired_imp r1 fun a c z => stab _ _ _ _ _ (fun b o nb n1 n2 q => ?_) z) (stab _ _ _ H4 _ (fun b o nb _ _ q => by rw [upd_ne nb]; exact q) el)
      rw [upd_ne nb]
      exact fr _ d4 b o n1 n2 q
  · have e : i = n := by omega
    subst e
    exact .inl ⟨wk.stop _ ok1, done D H1 ys d1 hD nD.1 nD.2.1 e1 r1⟩
/-- lines with other weights -/
theorem new_lines {K : PySem.W.Frag} {H : Hp} {D : Addr} {ok : Int → Prop} : ∀ {trs : List Trip} {ys : List V}, Paired (fun x y => ∃ (t : Addr) (z : Int), y = V.ref t ∧ t ≠ D ∧ H t = some (.tup [.int (x.1 : Nat), .int (x.2.1 : Nat), .int z]) ∧ ok z) trs ys →
    ∃ (ts : List Addr) (us : List Trip), ys = ts.map V.ref ∧ Paired (fun t x => TripT K H t x) ts us ∧ pairsOfT us = pairsOfT trs ∧ ∀ x ∈ us, ok x.2.2
  | _, _, .nil => ⟨[], [], rfl, .nil, rfl, fun _ h => (by cases h)⟩
  | x :: _, _, .cons ⟨t, z, e, _, h, o⟩ r => by
    obtain ⟨ts, us, e1, e2, e3, e4⟩ := new_lines (K := K) r
    subst e e1
    refine ⟨t :: ts, (x.1, x.2.1, z) :: us, rfl, .cons (SqT.of h) e2, ?_, fun y hy => ?_⟩
    · show (x.1, x.2.1) :: pairsOfT us = (x.1, x.2.1) :: pairsOfT _
      rw [e3]
    · rcases List.mem_cons.mp hy with q | q
      · rw [q]; exact o
      · exact e4 y q
theorem WebOk.reweigh {n : Nat} {trs us : List Trip} {ns : List Nat} (W : WebOk n trs ns) (e : pairsOfT us = pairsOfT trs) : WebOk n us ns := by
  refine ⟨W.n1, W.n5, fun x hx => ?_, ?_, ?_, W.no, W.ndn⟩
  · have : (x.1, x.2.1) ∈ pairsOfT trs := by
      rw [← e]
      exact List.mem_map.mpr ⟨x, hx, rfl⟩
    obtain ⟨t, ht, e1, e2⟩ := pair_of this
    have := W.lt t ht
    omega
  · show (pairsOfT us).Nodup
    rw [e]
    exact W.nd
  · have h1 := congrArg List.length e
    have h2 := W.few
    unfold pairsOfT at h1
    rw [List.length_map, List.length_map] at h1
    omega
theorem jn_same {trs us : List Trip} (e : pairsOfT us = pairsOfT trs) : jnB us = jnB trs := by
  funext a b
  unfold jnB
  rw [e]
/-- what the law's numbers are: those of webs, of shut webs -/
def NumsOk (b : Bool) (n : Nat) (trs : List Trip) (ns : List Nat) (nums : List Int) : Prop := nums.length = 2 * n + 5 ∧ if b = true then ∀ k, k ≤ 2 * n + 4 → co nums k = WP (jnB trs) (gS (inB ns)) yes n k else ∀ k, k ≤ 2 * n + 4 → conv (WP (jnB trs) (gW (inB ns)) yes n) (co nums) k = one k
def spBooksCount (K : PySem.W.Frag) : Sp := fun vs H Q _ => ∃ (d la ca : Addr) (p : Int) (n : Nat) (a o nl : Addr) (b : Bool) (trs : List Trip) (ns : List Nat) (nums : List Int), vs = [.ref d, .int p, .int (n : Nat), .ref a, .ref o, .ref nl, .bl b] ∧ Drw H d la ca ∧ p ∈ fieldsL ∧ LinesL K (Out d la H) a trs ∧ SqL K (Out d la H) o (natV ns) ∧ WebOk n trs ns ∧
  SqL K (Out d la H) nl (nums.map V.int) ∧ NumsOk b n trs ns nums ∧ ∀ H', Drn d la ca H H' → Q (.bl true) H'
section
variable {w : World} {K : PySem.W.Frag} {mg : Str → Option Value} {base : Heap}
abbrev N_books_count : List Str := ["_law_draw", "_law_field_here", "_law_letters", "_law_lines_here", "_law_nothings_here", "_law_numbers_here", "_law_is_shut", "_law_length", "_law_own_lines", "_law_line"]
theorem sc_books_count : FnScope N_books_count ["_law_draw", "_law_field_here", "_law_letters", "_law_lines_here", "_law_nothings_here", "_law_numbers_here", "_law_is_shut"] (defScope sl_books_count) := ⟨rfl, rfl, rfl, by decide +kernel, rfl, by decide +kernel, by decide +kernel⟩
theorem f_law_books_count {C : Addr} (D : DefAt K mg "_law_books_count" sl_books_count) (T : Txt K mg) (f_take : FnS PG w K mg base CX0 2 "_law_take" ["_law_draw", "_law_amount"] spTake) (f_longest : FnS PG w K mg base CX0 2 "_law_longest" ["_law_letters", "_law_most"] spLongest)
    (f_count : FnS PG w K mg base CX0 6 "count" ["book", "length"] (spCount K C)) (f_web_book : FnS PG w K mg base CX0 7 "web_book" ["prime", "letters", "lines", "nothings"] (spBook K C fun _ => webTr)) (f_shut_web : FnS PG w K mg base CX0 7 "shut_web" ["prime", "letters", "lines", "nothings"] (spBook K C shutTr)) :
    FnS PG w K mg base CX0 8 "_law_books_count" ["_law_draw", "_law_field_here", "_law_letters", "_law_lines_here", "_law_nothings_here", "_law_numbers_here", "_law_is_shut"] (spBooksCount K) :=
  mkFn D sc_books_count (fun _ _ _ _ _ _ us hl => match us, hl with | [_, _, _, _, _, _, _], _ => rfl) (fun vs H Q E ⟨_, _, _, _, _, _, _, _, _, _, _, _, e, _⟩ => by rw [e]; rfl) fun cdv A outer s H vs Q E hr ⟨d, la, ca, p, n, a, o, nl, b, trs, ns, nums, e, hd, hp, hlines, ho, W, hnl, ⟨ln, hnum⟩, q⟩ => by
  subst e
  have big : 20000 < sizeLine := by decide
  have hp2 := fields_pos hp
  have n1 := W.n1
  have n5 := W.n5
  refine ⟨_, (pss_cons (ps_set (i := 7) sc_books_count.nd rfl (.inl rfl) (pe_call f_take.ok (hr.mono (by decide)) rfl f_take.g f_take.kp f_take.b .nil pass0 (pa_cons (pv 0) (pa_cons (pe_op op_add pe_int (pe_callB (call_min2 rfl) (by rfl) T.min_ bo_min (pa_cons pe_int (pa_cons (pe_call f_longest.ok (hr.mono (by decide)) rfl f_longest.g f_longest.kp f_longest.b .nil pass0 (pa_cons (pv 2) (pa_cons pe_int pa_nil))) pa_nil)))) pa_nil))))
      (pss_cons (ps_setLc (i := 8) (own := [("_law_line", 9)]) (g := (gName 9)) rfl sc_books_count.nd rfl rfl (sw_true rfl rfl rfl (by decide +kernel)) (pi_list (pv 3)) (blkOk_by (N := N_books_count) (sc := defScope sl_books_count) (by decide +kernel)) (fun _ _ _ _ _ => (pg_name (i := 9) sc_books_count.nd rfl (.inl rfl))) (fun _ _ _ _ _ => pts_nil) (fun _ _ _ _ _ => (pe_tup (pa_cons (pe_ix (ix_seqX : IxR _ (ixSeq K)) (pv 9) pe_int (fun _ _ => rfl)) (pa_cons (pe_ix (ix_seqX : IxR _ (ixSeq K)) (pv 9) pe_int (fun _ _ => rfl)) (pa_cons (pe_op op_add pe_int (pe_call f_take.ok (hr.mono (by decide)) rfl f_take.g f_take.kp f_take.b .nil pass0 (pa_cons (pv 0) (pa_cons (pe_op op_sub (pv 1) pe_int) pa_nil)))) pa_nil))))))
      (pss_cons (ps_if (pt_val (pv 6)) (pss_one (ps_ret (pe_cmpR op_eq (pe_call f_count.ok (hr.mono (by decide)) rfl f_count.g f_count.kp f_count.b .nil pass0 (pa_cons (pe_call f_shut_web.ok (hr.mono (by decide)) rfl f_shut_web.g f_shut_web.kp f_shut_web.b .nil pass0 (pa_cons (pv 1) (pa_cons (pv 2) (pa_cons (pv 8) (pa_cons (pv 4) pa_nil))))) (pa_cons (pv 7) pa_nil))) (pe_ix ix_list (pv 5) (pv 7) (fun _ _ => rfl)) (nomark _)))) pss_nil)
      (pss_one (ps_ret (pe_cmpR op_eq (pe_call f_count.ok (hr.mono (by decide)) rfl f_count.g f_count.kp f_count.b .nil pass0 (pa_cons (pe_call f_web_book.ok (hr.mono (by decide)) rfl f_web_book.g f_web_book.kp f_web_book.b .nil pass0 (pa_cons (pv 1) (pa_cons (pv 2) (pa_cons (pv 8) (pa_cons (pv 4) pa_nil))))) (pa_cons (pv 7) pa_nil))) (pe_ix ix_list (pv 5) (pv 7) (fun _ _ => rfl)) (nomark _))))))), ?_⟩
  have l6 : longTo n 125 7 ≤ 6 := (len_ok W (Nat.le_refl _)).2.1
  refine seq1 (asg1 ⟨_, rfl, _, rfl, n, 125, rfl, n5, fun H1 s1 => ⟨6, ((longTo n 125 7 : Nat) : Int), rfl, _, _, rfl, rfl, d, la, ca, 1 + longTo n 125 7, ?_, hd.mono s1, by omega, by omega, fun H2 L d2 hL => ?_⟩⟩)
  · show [V.ref d, V.int (1 + (if ((longTo n 125 7 : Nat) : Int) < 6 then ((longTo n 125 7 : Nat) : Int) else 6))] = _
    have : (1 + (if ((longTo n 125 7 : Nat) : Int) < 6 then ((longTo n 125 7 : Nat) : Int) else 6)) = ((1 + longTo n 125 7 : Nat) : Int) := by
      split <;> omega
    rw [this]
  have d02 : Drn d la ca H H2 := (Drn.of hd s1).trans d2
  have hL' : L ≤ longTo n 125 7 := by omega
  obtain ⟨_, L6, L1000, L2n⟩ := len_ok W hL'
  obtain ⟨ts, ha2, pr2⟩ := hlines.mono d02.1
  have lt := paired_len pr2
  have few := W.few
  dsimp only
  refine seq1 ⟨_, rfl, a, rfl, ⟨_, out_in.seq ha2⟩, lc_walkA (wk_list (K := K) (xs := ts.map V.ref)) d2.2 (fun D i y H => ∀ x, trs[i]? = some x → ∃ (t : Addr) (z : Int), y = V.ref t ∧ t ≠ D ∧ t ≠ d ∧ t ≠ la ∧ H t = some (.tup [.int (x.1 : Nat), .int (x.2.1 : Nat), .int z]) ∧ z % p ≠ 0)
    (fun D i y H1 H2 f h x hx => by
      obtain ⟨t, z, e, n1, n2, n3, g, o⟩ := h x hx
      exact ⟨t, z, e, n1, n2, n3, f _ _ n1 n2 n3 g, o⟩) (by rw [List.length_map]; omega) (fun H' dr => out_in.seq (dr.1.seq ha2)) (fun DD i x H3 C hi it d3 hDD nd1 nd2 ac kC => ?_) fun DD H3 ys d3 hDD nd1 nd2 e3 r3 => ?_⟩
  · obtain ⟨t, z, rfl, e1, e2, lx⟩ := paired_getD pr2 it
    obtain ⟨acc, hacc⟩ := ac
    have lx3 : SqX K H3 t _ := out_in.seqX (d3.1.seqX lx)
    refine ⟨rfl, _, rfl, t, _, (0 : Nat), _, rfl, rfl, lx3, atI_nat (j := 0) rfl, _, rfl, t, _, (1 : Nat), _, rfl, rfl, lx3, atI_nat (j := 1) rfl, _, rfl, _, rfl, _, _, rfl, rfl, d, la, ca, (p - 1).toNat, ?_, d3.2, by omega, by omega, fun H4 v d4 hv => ⟨_, _, rfl, rfl, (by show 3 ≤ sizeLine; decide), fun u hu => ?_⟩⟩
    · show [V.ref d, V.int (p - 1)] = _
      rw [Int.toNat_of_nonneg (by omega)]
    have nu := d4.2.new hu
    have nuD : u ≠ DD := ne_of_none' (d4.keep hacc nd1 nd2) hu
    refine kC _ _ (d4.same (Same.new hu)) fun x hx => ?_
    rw [e2] at hx
    cases hx
    refine ⟨u, 1 + (v : Int), rfl, nuD, nu.1, nu.2.1, upd_same, ?_⟩
    rw [Int.emod_eq_of_lt (by omega) (by omega)]
    omega
  · have r4 : Paired (fun x y => ∃ (t : Addr) (z : Int), y = V.ref t ∧ t ≠ DD ∧ H3 t = some (.tup [.int (x.1 : Nat), .int (x.2.1 : Nat), .int z]) ∧ z % p ≠ 0) trs ys := by
      have lr : ys.length = trs.length := by rw [← paired_len r3, List.length_range, List.length_map, lt]
      refine paired_mk lr.symm fun i x y hx hy => ?_
      obtain ⟨j, hj, f⟩ := paired_at r3 hy
      have il : i < (ts.map V.ref).length := by
        have := (List.getElem?_eq_some_iff.mp hx).1
        rw [List.length_map]
        omega
      rw [List.getElem?_range il] at hj
      cases hj
      obtain ⟨t, z, e, n1, _, _, g, o⟩ := f x hx
      exact ⟨t, z, e, n1, g, o⟩
    obtain ⟨us, vs, rfl, pv, ep, nz⟩ := new_lines (K := K) r4
    have W' := W.reweigh ep
    have d03 := d02.trans d3
    have la3 : LinesAt K H3 DD vs := ⟨us, SqL.of e3, pv⟩
    have ho3 : SqL K H3 o (natV ns) := out_in.seq (d03.1.seq ho)
    have hnl3 : SqL K H3 nl (nums.map V.int) := out_in.seq (d03.1.seq hnl)
    have wa : WebArgs K H3 [.int p, .int (n : Nat), .ref DD, .ref o] p n vs ns := ⟨DD, o, rfl, la3, ho3, hp, W', nz⟩
    have at_ : atI (nums.map V.int) (L : Int) = some (.int (co nums L)) := atI_nat (map_at (by omega))
    dsimp only
    cases b with
    | true =>
      refine seq1 (if1 ⟨_, rfl, true, rfl, iteT' rfl (ret1 ⟨_, rfl, _, rfl, _, rfl, _, rfl, p, n, vs, ns, wa, fun H5 bk s5 hb => ?_⟩)⟩)
      obtain ⟨fs, hba, heq⟩ := hb
      refine ⟨_, rfl, p, n, fs, L, ⟨bk, rfl, hba, L6, L1000⟩, fun H6 Lh s6 N => ⟨_, rfl, _, rfl, nl, _, (L : Nat), _, rfl, rfl, (s5.trans s6).seq hnl3, at_, rfl, ?_⟩⟩
      have hc := count_shut (m := 2 * n + 4) (Wc := co nums) hp W' nz hL' rfl heq N (fun k hk => by rw [jn_same ep]; exact hnum k hk)
      rw [show decide (V.int (((restL n L Lh).length : Nat) : Int) = V.int (co nums L)) = true from decide_eq_true (congrArg V.int hc)]
      exact q _ (d03.same (s5.trans s6))
    | false =>
      refine seq1 (if1 ⟨_, rfl, false, rfl, iteF' rfl ?_⟩)
      dsimp only [tNext]
      refine ret1 ⟨_, rfl, _, rfl, _, rfl, _, rfl, p, n, vs, ns, wa, fun H5 bk s5 hb => ?_⟩
      obtain ⟨fs, hba, heq⟩ := hb
      refine ⟨_, rfl, p, n, fs, L, ⟨bk, rfl, hba, L6, L1000⟩, fun H6 Lh s6 N => ⟨_, rfl, _, rfl, nl, _, (L : Nat), _, rfl, rfl, (s5.trans s6).seq hnl3, at_, rfl, ?_⟩⟩
      have hc := count_web (m := 2 * n + 4) (c := co nums) (Wc := WP (jnB vs) (gW (inB ns)) yes n) hp W' nz hL' rfl heq N (fun _ _ => rfl) (fun k hk => by rw [jn_same ep]; exact hnum k hk)
      rw [show decide (V.int (((restL n L Lh).length : Nat) : Int) = V.int (co nums L)) = true from decide_eq_true (congrArg V.int hc)]
      exact q _ (d03.same (s5.trans s6))
end
end Kz
end
section
set_option Elab.async false
set_option linter.all false
set_option maxRecDepth 100000
set_option maxHeartbeats 4000000
/-! a caught error that is kept: isinstance, its field -/
namespace Kz
open PySem PySem.Spec PyProof.Rows L2 KzH
/-- what an own exception class must say -/
structure ExcA (K : PySem.W.Frag) (D : Addr) : Prop where
  hg : PySem.W.findIn K (.ref D) "__getattribute__" = some (some (.builtin "BaseException.__getattribute__"))
  hk : PySem.W.findIn K (.ref D) "__getattr__" = some none
  hs : PySem.W.subIn K (.ref D) (.type "BaseException") = some true
  hd : PySem.W.hasDictIn K D = true
  ha : PySem.W.findIn K (.ref D) "__class__" = some (some (.builtin "object.__class__"))
  hn : PySem.W.specialIn K (.builtin "object.__class__") "__get__" = some (some (.builtin "getset_descriptor.__get__"))
  ht : PySem.W.takesIn K (.builtin "object.__class__") = some true
  hm : PySem.W.mroIn K D (.type "object") = some true
theorem excB_ok {K : PySem.W.Frag} {D : Addr} (h : excB K D = true) : ExcA K D := by
  obtain ⟨h1, h⟩ := Bool.and_eq_true_iff.mp h
  obtain ⟨h2, h⟩ := Bool.and_eq_true_iff.mp h
  obtain ⟨h3, h⟩ := Bool.and_eq_true_iff.mp h
  obtain ⟨h4, h⟩ := Bool.and_eq_true_iff.mp h
  obtain ⟨h5, h⟩ := Bool.and_eq_true_iff.mp h
  obtain ⟨h6, h⟩ := Bool.and_eq_true_iff.mp h
  obtain ⟨h7, h8⟩ := Bool.and_eq_true_iff.mp h
  exact ⟨of_decide_eq_true h1, of_decide_eq_true h2, of_decide_eq_true h3, h4, of_decide_eq_true h5, of_decide_eq_true h6, of_decide_eq_true h7, of_decide_eq_true h8⟩
/-- isinstance(e, C), e of the class C -/
def rIsX (K : PySem.W.Frag) : List V → Hp → VK → Prop := fun xs H Q => ∃ (a C : Addr) (d : Option Addr), xs = [.ref a, .ref C] ∧ H a = some (ExK (.ref C) d a) ∧ (∀ dd, d = some dd → ∃ fs, H dd = some (.xd fs)) ∧ ExcA K C ∧ Q (.bl true) H
section
variable {X : Cx}
theorem call_isX : CallR X (.builtin "isinstance") (rIsX X.K) := by
  intro pins s σ H xs us Q I r h
  obtain ⟨a, C, d, rfl, ha, hd, T, q⟩ := h
  cases r with
  | cons rx rr =>
    cases rr with
    | cons rt rr =>
      cases rr
      cases rx
      cases rt
      obtain ⟨⟨oe, vs, o1, hz, hv⟩, _, _⟩ := I.hok a _ ha
      have no : PySem.W.notCls oe = true := by
        unfold PySem.W.notCls
        rw [hv]
      have cl : (PySem.W.clsIn X.K C).isSome = true := by
        have := T.hd
        unfold PySem.W.hasDictIn at this
        cases e : PySem.W.clsIn X.K C with
        | none => rw [e] at this; cases this
        | some c => rfl
      have J : ∃ od, PySem.W.InstAt s.heap a oe C od := by
        cases d with
        | none => exact ⟨none, o1, hz.1, no, by rw [hz.2]; trivial⟩
        | some dd =>
          obtain ⟨fs, hfs⟩ := hd dd rfl
          obtain ⟨mA, hns, _⟩ := (show ObjOk X.prog X.w H s.heap dd (.xd fs) from I.hok dd _ hfs)
          obtain ⟨od, ho, _⟩ := lookIn_ns hns
          exact ⟨some od, o1, hz.1, no, by rw [hz.2]; exact ho⟩
      obtain ⟨od, J⟩ := J
      exact PySem.W.kia_one (PySem.W.kitx_exc cl T.hg T.hk T.hs T.ha T.hn T.ht T.hm) I.kIn J (b := true) (by unfold PySem.W.kitOne; rw [if_pos (beq_self_eq_true _)]) (fun z => nomatch z) fun tk => ⟨.bl true, H, I.kept (t' := tk) fun _ _ z => z, rfl, q⟩
/-- e.f, e a caught error that is kept -/
def tPartX (K : PySem.W.Frag) (f : Str) (te : TE) : TE := fun σ H Q => te σ H fun x H1 => ∃ (a C dd : Addr) (fs : List (Str × V)) (v : V), x = .ref a ∧ H1 a = some (ExK (.ref C) (some dd) a) ∧ H1 dd = some (.xd fs) ∧ fs.lookup f = some v ∧ ExcA K C ∧ PySem.W.findIn K (.ref C) f = some none ∧ Q v H1
theorem pe_partX {e : Expr} {te : TE} {pos : Pos} {n : Str} (he : PE X e te) (hb : attributeBase e n X.env (eval e X.env) = eval e X.env := by rfl) : PE X (.Attribute e n pos) (tPartX X.K n te) := by
  refine ⟨fun pins s σ H Q I h => ?_⟩
  refine attr_of hb (thn (he.run pins s σ H _ I h) fun u s1 hh => ?_)
  obtain ⟨x, H1, I1, rx, a, C, dd, fs, v, ex, ha, hdd, l, T, hno, q⟩ := hh
  subst ex
  obtain rfl : u = Value.ref a := rx
  obtain ⟨⟨oe, vs, o1, hz, hd⟩, _, _⟩ := I1.hok a _ ha
  obtain ⟨mA, hns, hr⟩ := (show ObjOk X.prog X.w H1 s1.heap dd (.xd fs) from I1.hok dd _ hdd)
  obtain ⟨od, ho, hl⟩ := lookIn_ns hns
  obtain ⟨u, hu, ru⟩ := RelO.some_of (v := v) (o := mA n) (by rw [← l]; exact hr n)
  have J : PySem.W.InstAt s1.heap a oe C (some od) := ⟨o1, hz.1, by unfold PySem.W.notCls; rw [hd] <;> rfl, by rw [hz.2]; exact ho⟩
  exact HandSPX.exc_get I1.kIn J T.hg T.hk T.hs (PySem.W.findObj_own T.hd hno rfl (by rw [hl, hu])) (handed_of ru) ⟨v, H1, I1.tok _, ru, q⟩
end
end Kz
end
section
set_option Elab.async false
set_option linter.all false
set_option maxRecDepth 100000
set_option maxHeartbeats 4000000
/-! the law's bad values -/
namespace Kz
open PySem PySem.Spec PyProof.Rows L2 KzM
/-- what is new in H' -/
def New (H0 H' : Hp) : Hp := fun b => match H0 b with
  | none => H' b
  | some _ => none
theorem new_of {H0 H' : Hp} {b : Addr} {o : HO} (n : H0 b = none) (h : H' b = some o) : New H0 H' b = some o := by
  unfold New
  rw [n]
  exact h
theorem new_in {H0 H' : Hp} {b : Addr} {o : HO} (h : New H0 H' b = some o) : H0 b = none ∧ H' b = some o := by
  unfold New at h
  cases e : H0 b with
  | none => rw [e] at h; exact ⟨rfl, h⟩
  | some u => rw [e] at h; cases h
theorem new_mono {H0 H H' : Hp} (s : Same H H') : Same (New H0 H) (New H0 H') := fun b o h => new_of (new_in h).1 (s _ _ (new_in h).2)
theorem new_same {H0 H : Hp} : Same (New H0 H) H := fun b o h => (new_in h).2
theorem new_out {d la ca : Addr} {H H' : Hp} (hd : Drw H d la ca) : Same (New H H') (Out d la H') := fun b o h => by
  have n := hd.new (new_in h).1
  exact out_of (new_in h).2 n.1 n.2.1
def Makes (K : PySem.W.Frag) (te : TE) (σ : L2.St) (d : PD) : Prop := ∀ H0 H Q, Same H0 H → (∀ v H', Same H H' → PDR K (New H0 H') v d → Q v H') → te σ H Q
def MakesA (K : PySem.W.Frag) (ta : TA) (σ : L2.St) (ds : List PD) : Prop := ∀ H0 H Q, Same H0 H → (∀ vs H', Same H H' → PDRs K (New H0 H') vs ds → Q vs H') → ta σ H Q
section
variable {K : PySem.W.Frag} {σ : L2.St}
theorem mk_int (i : Int) : Makes K (tC (.int i)) σ (.int i) := fun H0 H Q s q => q _ _ (Same.refl _) (.int i)
theorem mk_non : Makes K (tC .non) σ .oth := fun H0 H Q s q => q _ _ (Same.refl _) .non
theorem mk_bl (b : Bool) : Makes K (tC (.bl b)) σ .oth := fun H0 H Q s q => q _ _ (Same.refl _) (.bl b)
theorem mk_str (x : Str) : Makes K (tC (.str x)) σ .oth := fun H0 H Q s q => q _ _ (Same.refl _) (.str x)
theorem mk_neg (i : Int) : Makes K (tUn (rU fun i => .int (-i)) (tC (.int i))) σ (.int (-i)) := fun H0 H Q s q => ⟨i, rfl, q _ _ (Same.refl _) (.int _)⟩
theorem mk_var {i : Nat} {n : Int} (h : σ[i]? = some (some (.int n))) : Makes K (tVar i) σ (.int n) := fun H0 H Q s q => ⟨_, h, q _ _ (Same.refl _) (.int n)⟩
theorem mk_dic : Makes K tDNewK σ .dic := fun H0 H Q s q => fun p hp => q _ _ (Same.new hp) (.dic (new_of (s.free hp) upd_same))
theorem mk_nil : MakesA K tNil σ [] := fun H0 H Q s q => q _ _ (Same.refl _) .nil
theorem mk_cons {te : TE} {ta : TA} {d : PD} {ds : List PD} (h : Makes K te σ d) (t : MakesA K ta σ ds) : MakesA K (tCons te ta) σ (d :: ds) := fun H0 H Q s q =>
  h H0 H _ s fun v H1 s1 r => t H0 H1 _ (s.trans s1) fun vs H2 s2 rs => q _ _ (s1.trans s2) (.cons (r.mono (new_mono s2)) rs)
theorem mk_lst {ta : TA} {ds : List PD} (h : MakesA K ta σ ds) (l : ds.length ≤ sizeLine) : Makes K (tLst ta) σ (.seq ds) := fun H0 H Q s q =>
  h H0 H _ s fun vs H1 s1 rs => ⟨by rw [rs.len]; exact l, fun p hp => q _ _ (s1.trans (Same.new hp)) (.seq (.inl (SqL.of (new_of ((s.trans s1).free hp) upd_same))) (PDRs.mono (new_mono (Same.new hp)) rs))⟩
theorem mk_tup {ta : TA} {ds : List PD} (h : MakesA K ta σ ds) (l : ds.length ≤ sizeLine) : Makes K (tTup ta) σ (.seq ds) := fun H0 H Q s q =>
  h H0 H _ s fun vs H1 s1 rs => ⟨by rw [rs.len]; exact l, fun p hp => q _ _ (s1.trans (Same.new hp)) (.seq (.inr (SqT.of (new_of ((s.trans s1).free hp) upd_same))) (PDRs.mono (new_mono (Same.new hp)) rs))⟩
end
def badA (L : Int) : List PD := [.oth, .int 5, .dic, .oth, .seq [.seq [.int 0, .int 1]], .seq [.seq [.int 0, .int 1, .int 1], .seq [.int 0, .int 1, .int 2]], .seq [.seq [.int 1, .int 0, .int 1]], .seq [.seq [.int 0, .int 0, .int 1]], .seq [.seq [.int 0, .int L, .int 1]], .seq [.seq [.int (-1), .int 0, .int 1]]]
def badB : List PD := [.seq [.seq [.int 0, .int 1, .oth]], .seq [.seq [.int 0, .int 1, .oth]], .seq [.seq [.oth, .int 1, .int 1]], .seq [.seq [.int 0, .int 1, .int 1, .int 1]], .seq [.seq [.int 0, .int 1, .int 1], .seq [.int 0, .int 1, .int 1]], .seq [.int 5], .seq [.oth]]
def badC (L : Int) : List PD := [.oth, .int 5, .dic, .oth, .seq [.int L], .seq [.int (-1)], .seq [.int 0, .int 0], .seq [.oth], .seq [.oth], .seq [.seq [.int 0]], .seq [.seq [.int 0]]]
theorem bad_lines {L : Int} : ∀ d ∈ badA L ++ badB, fewD d ∧ linesD L d = false := by
  have sz : 10 < sizeLine := by decide
  intro d h
  simp only [badA, badB, List.cons_append, List.nil_append, List.mem_cons, List.not_mem_nil, or_false] at h
  rcases h with h | h | h | h | h | h | h | h | h | h | h | h | h | h | h | h | h <;> subst h <;> constructor <;> simp [fewD, lenD, linesD, lineD, pairD] <;> omega
theorem bad_noth {L : Int} : ∀ d ∈ badC L, fewD d ∧ nothD L d = false := by
  have sz : 10 < sizeLine := by decide
  intro d h
  simp only [badC, List.mem_cons, List.not_mem_nil, or_false] at h
  rcases h with h | h | h | h | h | h | h | h | h | h | h <;> subst h <;> constructor <;> simp [fewD, lenD, nothD, btwD, intD] <;> omega
def spBadLines (K : PySem.W.Frag) : Sp := fun vs H Q _ => ∃ L : Nat, vs = [.int (L : Nat)] ∧ ∀ H' g ys ds, Same H H' → H g = none → H' g = some (.lst ys) → PDRs K (New H H') ys ds → 1 ≤ ys.length → ys.length ≤ 1000 → (∀ d ∈ ds, fewD d ∧ linesD L d = false) → Q (.ref g) H'
def spBadNoth (K : PySem.W.Frag) : Sp := fun vs H Q _ => ∃ L : Nat, vs = [.int (L : Nat)] ∧ ∀ H' g ys ds, Same H H' → H g = none → H' g = some (.lst ys) → PDRs K (New H H') ys ds → 1 ≤ ys.length → ys.length ≤ 1000 → (∀ d ∈ ds, fewD d ∧ nothD L d = false) → Q (.ref g) H'
def spIsNumberE (CB : Addr) : Sp := fun vs H Q _ => ∃ (a dd : Addr), vs = [.ref a, .str "letters"] ∧ H a = some (ExK (.ref CB) (some dd) a) ∧ H dd = some (.xd [("part", .str "letters")]) ∧ Q (.bl true) H
theorem pdrs_app {K : PySem.W.Frag} {H : Hp} : ∀ {vs ws : List V} {ds es : List PD}, PDRs K H vs ds → PDRs K H ws es → PDRs K H (vs ++ ws) (ds ++ es)
  | _, _, _, _, .nil, h => h
  | _, _, _, _, .cons r t, h => .cons r (pdrs_app t h)
theorem pdrs_mem {K : PySem.W.Frag} {H : Hp} : ∀ {vs : List V} {ds : List PD}, PDRs K H vs ds → ∀ v ∈ vs, ∃ d ∈ ds, PDR K H v d
  | _, _, .nil, v, h => by cases h
  | _, _, .cons (d := d) r t, v, h => by
    rcases List.mem_cons.mp h with q | q
    · rw [q]
      exact ⟨d, List.mem_cons_self, r⟩
    · obtain ⟨d, hd, r⟩ := pdrs_mem t v q
      exact ⟨d, List.mem_cons_of_mem _ hd, r⟩
section
variable {P : Program} {w : World} {K : PySem.W.Frag} {mg : Str → Option Value} {base : Heap}
abbrev N_bad_lines : List Str := ["_law_letters", "_law_found"]
theorem sc_bad_lines : FnScope N_bad_lines ["_law_letters"] (defScope sl_bad_lines) := ⟨rfl, rfl, rfl, by decide +kernel, rfl, by decide +kernel, by decide +kernel⟩
theorem f_law_bad_lines (D : DefAt K mg "_law_bad_lines" sl_bad_lines) (T : Txt K mg) : FnS P w K mg base CX0 1 "_law_bad_lines" ["_law_letters"] (spBadLines K) :=
  mkFn D sc_bad_lines (fun _ _ _ _ _ _ us hl => match us, hl with | [_], _ => rfl) (fun vs H Q E ⟨_, e, _⟩ => by rw [e]; rfl) fun cdv A outer s H vs Q E hr ⟨L, e, q⟩ => by
  subst e
  have big : 1000 < sizeLine := by decide
  refine ⟨_, (pss_cons (ps_set (i := 1) sc_bad_lines.nd rfl (.inl rfl) (pe_lst (pa_cons pe_non (pa_cons pe_int (pa_cons pe_dnewK (pa_cons pe_str (pa_cons (pe_lst (pa_cons (pe_tup (pa_cons pe_int (pa_cons pe_int pa_nil))) pa_nil)) (pa_cons (pe_lst (pa_cons (pe_tup (pa_cons pe_int (pa_cons pe_int (pa_cons pe_int pa_nil)))) (pa_cons (pe_tup (pa_cons pe_int (pa_cons pe_int (pa_cons pe_int pa_nil)))) pa_nil))) (pa_cons (pe_lst (pa_cons (pe_tup (pa_cons pe_int (pa_cons pe_int (pa_cons pe_int pa_nil)))) pa_nil)) (pa_cons (pe_lst (pa_cons (pe_tup (pa_cons pe_int (pa_cons pe_int (pa_cons pe_int pa_nil)))) pa_nil)) (pa_cons (pe_lst (pa_cons (pe_tup (pa_cons pe_int (pa_cons (pv 0) (pa_cons pe_int pa_nil)))) pa_nil)) (pa_cons (pe_lst (pa_cons (pe_tup (pa_cons (pe_un un_neg pe_int) (pa_cons pe_int (pa_cons pe_int pa_nil)))) pa_nil)) pa_nil))))))))))))
      (pss_one (ps_ret (pe_op op_cat (pv 1) (pe_lst (pa_cons (pe_lst (pa_cons (pe_tup (pa_cons pe_int (pa_cons pe_int (pa_cons pe_non pa_nil)))) pa_nil)) (pa_cons (pe_lst (pa_cons (pe_tup (pa_cons pe_int (pa_cons pe_int (pa_cons pe_bl pa_nil)))) pa_nil)) (pa_cons (pe_lst (pa_cons (pe_tup (pa_cons pe_bl (pa_cons pe_int (pa_cons pe_int pa_nil)))) pa_nil)) (pa_cons (pe_lst (pa_cons (pe_tup (pa_cons pe_int (pa_cons pe_int (pa_cons pe_int (pa_cons pe_int pa_nil))))) pa_nil)) (pa_cons (pe_lst (pa_cons (pe_tup (pa_cons pe_int (pa_cons pe_int (pa_cons pe_int pa_nil)))) (pa_cons (pe_lst (pa_cons pe_int (pa_cons pe_int (pa_cons pe_int pa_nil)))) pa_nil))) (pa_cons (pe_lst (pa_cons pe_int pa_nil)) (pa_cons (pe_lst (pa_cons pe_str pa_nil)) pa_nil)))))))))))), ?_⟩
  have l1 : 1 ≤ sizeLine := by decide
  have l2 : 2 ≤ sizeLine := by decide
  have l3 : 3 ≤ sizeLine := by decide
  have l4 : 4 ≤ sizeLine := by decide
  have va : ∀ x : V, Makes K (tVar 0) [some (.int (L : Nat)), some x] (.int (L : Nat)) := fun x => mk_var rfl
  have hA : MakesA K _ [some (.int (L : Nat)), none] (badA L) := mk_cons mk_non (mk_cons (mk_int 5) (mk_cons mk_dic (mk_cons (mk_str "01") (mk_cons (mk_lst (mk_cons (mk_tup (mk_cons (mk_int 0) (mk_cons (mk_int 1) mk_nil)) l2) mk_nil) l1)
    (mk_cons (mk_lst (mk_cons (mk_tup (mk_cons (mk_int 0) (mk_cons (mk_int 1) (mk_cons (mk_int 1) mk_nil))) l3) (mk_cons (mk_tup (mk_cons (mk_int 0) (mk_cons (mk_int 1) (mk_cons (mk_int 2) mk_nil))) l3) mk_nil)) l2)
    (mk_cons (mk_lst (mk_cons (mk_tup (mk_cons (mk_int 1) (mk_cons (mk_int 0) (mk_cons (mk_int 1) mk_nil))) l3) mk_nil) l1) (mk_cons (mk_lst (mk_cons (mk_tup (mk_cons (mk_int 0) (mk_cons (mk_int 0) (mk_cons (mk_int 1) mk_nil))) l3) mk_nil) l1)
    (mk_cons (mk_lst (mk_cons (mk_tup (mk_cons (mk_int 0) (mk_cons (mk_var (i := 0) rfl) (mk_cons (mk_int 1) mk_nil))) l3) mk_nil) l1) (mk_cons (mk_lst (mk_cons (mk_tup (mk_cons (mk_neg 1) (mk_cons (mk_int 0) (mk_cons (mk_int 1) mk_nil))) l3) mk_nil) l1) mk_nil)))))))))
  refine seq1 (asg1 (hA H H _ (Same.refl _) fun vs1 H1 s1 r1 => ⟨by rw [r1.len]; show 10 ≤ sizeLine; decide, fun p hp => ?_⟩))
  have s2 : Same H1 (upd H1 p (.lst vs1)) := Same.new hp
  have hB : ∀ σ, MakesA K _ σ badB := fun σ => mk_cons (mk_lst (mk_cons (mk_tup (mk_cons (mk_int 0) (mk_cons (mk_int 1) (mk_cons mk_non mk_nil))) l3) mk_nil) l1) (mk_cons (mk_lst (mk_cons (mk_tup (mk_cons (mk_int 0) (mk_cons (mk_int 1) (mk_cons (mk_bl true) mk_nil))) l3) mk_nil) l1)
    (mk_cons (mk_lst (mk_cons (mk_tup (mk_cons (mk_bl false) (mk_cons (mk_int 1) (mk_cons (mk_int 1) mk_nil))) l3) mk_nil) l1) (mk_cons (mk_lst (mk_cons (mk_tup (mk_cons (mk_int 0) (mk_cons (mk_int 1) (mk_cons (mk_int 1) (mk_cons (mk_int 1) mk_nil)))) l4) mk_nil) l1)
    (mk_cons (mk_lst (mk_cons (mk_tup (mk_cons (mk_int 0) (mk_cons (mk_int 1) (mk_cons (mk_int 1) mk_nil))) l3) (mk_cons (mk_lst (mk_cons (mk_int 0) (mk_cons (mk_int 1) (mk_cons (mk_int 1) mk_nil))) l3) mk_nil)) l2)
    (mk_cons (mk_lst (mk_cons (mk_int 5) mk_nil) l1) (mk_cons (mk_lst (mk_cons (mk_str "011") mk_nil) l1) mk_nil))))))
  dsimp only
  refine ret1 (op1 ⟨_, rfl, hB _ H _ _ (s1.trans s2) fun vs2 H3 s3 r2 => ⟨by rw [r2.len]; show 7 ≤ sizeLine; decide, fun p2 hp2 => ?_⟩⟩)
  have s4 : Same H3 (upd H3 p2 (.lst vs2)) := Same.new hp2
  have e1 : vs1.length = 10 := r1.len
  have e2 : vs2.length = 7 := r2.len
  refine ⟨p, p2, _, _, rfl, rfl, s4 _ _ (s3 _ _ upd_same), upd_same, by omega, fun g hg => ?_⟩
  have s5 := Same.new (o := .lst (vs1 ++ vs2)) hg
  exact q _ g _ _ ((s1.trans (s2.trans (s3.trans s4))).trans s5) ((s1.trans (s2.trans (s3.trans s4))).free hg) upd_same (pdrs_app (PDRs.mono (new_mono (s2.trans (s3.trans (s4.trans s5)))) r1) (PDRs.mono (new_mono (s4.trans s5)) r2)) (by rw [List.length_append]; omega) (by rw [List.length_append]; omega) bad_lines
abbrev N_bad_nothings : List Str := ["_law_letters"]
theorem sc_bad_nothings : FnScope N_bad_nothings ["_law_letters"] (defScope sl_bad_nothings) := ⟨rfl, rfl, rfl, by decide +kernel, rfl, by decide +kernel, by decide +kernel⟩
theorem f_law_bad_nothings (D : DefAt K mg "_law_bad_nothings" sl_bad_nothings) (T : Txt K mg) : FnS P w K mg base CX0 1 "_law_bad_nothings" ["_law_letters"] (spBadNoth K) :=
  mkFn D sc_bad_nothings (fun _ _ _ _ _ _ us hl => match us, hl with | [_], _ => rfl) (fun vs H Q E ⟨_, e, _⟩ => by rw [e]; rfl) fun cdv A outer s H vs Q E hr ⟨L, e, q⟩ => by
  subst e
  refine ⟨_, (pss_one (ps_ret (pe_lst (pa_cons pe_non (pa_cons pe_int (pa_cons pe_dnewK (pa_cons pe_str (pa_cons (pe_lst (pa_cons (pv 0) pa_nil)) (pa_cons (pe_lst (pa_cons (pe_un un_neg pe_int) pa_nil)) (pa_cons (pe_lst (pa_cons pe_int (pa_cons pe_int pa_nil))) (pa_cons (pe_lst (pa_cons pe_bl pa_nil)) (pa_cons (pe_lst (pa_cons pe_non pa_nil)) (pa_cons (pe_lst (pa_cons (pe_tup (pa_cons pe_int pa_nil)) pa_nil)) (pa_cons (pe_lst (pa_cons (pe_lst (pa_cons pe_int pa_nil)) pa_nil)) pa_nil)))))))))))))), ?_⟩
  have l1 : 1 ≤ sizeLine := by decide
  have l2 : 2 ≤ sizeLine := by decide
  have hA : MakesA K _ [some (.int (L : Nat))] (badC L) := mk_cons mk_non (mk_cons (mk_int 5) (mk_cons mk_dic (mk_cons (mk_str "0") (mk_cons (mk_lst (mk_cons (mk_var (i := 0) rfl) mk_nil) l1) (mk_cons (mk_lst (mk_cons (mk_neg 1) mk_nil) l1)
    (mk_cons (mk_lst (mk_cons (mk_int 0) (mk_cons (mk_int 0) mk_nil)) l2) (mk_cons (mk_lst (mk_cons (mk_bl true) mk_nil) l1) (mk_cons (mk_lst (mk_cons mk_non mk_nil) l1) (mk_cons (mk_lst (mk_cons (mk_tup (mk_cons (mk_int 0) mk_nil) l1) mk_nil) l1)
    (mk_cons (mk_lst (mk_cons (mk_lst (mk_cons (mk_int 0) mk_nil) l1) mk_nil) l1) mk_nil))))))))))
  refine ret1 (hA H H _ (Same.refl _) fun vs1 H1 s1 r1 => ⟨by rw [r1.len]; show 11 ≤ sizeLine; decide, fun g hg => ?_⟩)
  have e1 : vs1.length = 11 := r1.len
  exact q _ g _ _ (s1.trans (Same.new hg)) (s1.free hg) upd_same (PDRs.mono (new_mono (Same.new hg)) r1) (by omega) (by omega) bad_noth
namespace Lw
abbrev N_is_number : List Str := ["_law_caught_here", "_law_part"]
theorem sc_is_number : FnScope N_is_number ["_law_caught_here", "_law_part"] (defScope sl_is_number) := ⟨rfl, rfl, rfl, by decide +kernel, rfl, by decide +kernel, by decide +kernel⟩
theorem f_law_is_number {CB fB : Addr} (D : DefAt K mg "_law_is_number" sl_is_number) (T : Txt K mg) (BN : BnT K mg CB fB) (XA : ExcA K CB) : FnS P w K mg base CX0 1 "_law_is_number" ["_law_caught_here", "_law_part"] (spIsNumberE CB) :=
  mkFn D sc_is_number (fun _ _ _ _ _ _ us hl => match us, hl with | [_, _], _ => rfl) (fun vs H Q E ⟨_, _, e, _⟩ => by rw [e]; rfl) fun cdv A outer s H vs Q E hr ⟨a, dd, e, ha, hd, q⟩ => by
  subst e
  refine ⟨_, (pss_one (ps_ret (pe_and (pe_callB call_isX (by rfl) T.isinstance_ bo_isinstance (pa_cons (pv 0) (pa_cons (pe_glob (v := .ref _) rfl BN.gC rfl) pa_nil))) (pe_one (pe_cmpR op_eq (pe_partX (pv 0)) (pv 1) (nomark _)))))), ?_⟩
  refine ret1 ⟨_, rfl, a, CB, some dd, rfl, ha, fun d2 e2 => by cases e2; exact ⟨_, hd⟩, XA, true, rfl, iteT' rfl ?_⟩
  exact ⟨_, rfl, a, CB, dd, _, _, rfl, ha, hd, rfl, XA, BN.noN, _, rfl, rfl, q⟩
end Lw
end
end Kz
end
section
set_option Elab.async false
set_option linter.all false
set_option maxRecDepth 100000
set_option maxHeartbeats 4000000
/-! the law's refusals -/
namespace Kz
open PySem PySem.Spec PyProof.Rows L2 LamX KzM
/-- a def whose code object is known -/
theorem mkFnC {P : Program} {w : World} {K : PySem.W.Frag} {mg : Str → Option Value} {base : Heap} {CX : CXT} {N ps : List Str} {k : Nat} {sp : Sp} {x : Str} {st : Stmt} (D : DefAt K mg x st) (S : FnScope N ps (defScope st))
    (hb : ∀ (kV doc pm : Value) (an : Option Addr) (cdv ct : Value) (us : List Value), us.length = ps.length → bindArgs (PySem.W.fnOf x x (defArgs st) (defBody st) (defScope st) .none kV doc pm an cdv ct) ⟨us, []⟩ = pure (ps.zip us))
    (len : ∀ vs H Q E, sp vs H Q E → vs.length = ps.length)
    (body : ∀ (A : Around) (outer : List Env) (s : Shared) (H : Hp) (vs : List V) (Q : VK) (E : XK), Room k (A.deeper (envOfC x (defScope st) s.heap.objs.size (He.ga K x) (.ref (He.codeOf K (x, none))))) → sp vs H Q E →
      ∃ t, PSs (cxOf CX P w K mg base N x (defScope st) (He.ga K x) (.ref (He.codeOf K (x, none))) A outer s H E) (defBody st) t ∧ t { nx := fun _ H' => Q .non H', rt := Q } (start N vs) H) : FnS P w K mg base CX (k + 1) x ps sp := by
  obtain ⟨fd, F⟩ := D.F
  have e : fdOf K (He.ga K x) = fd := by
    obtain ⟨oc, od, dV, kV, doc, pm, an, cdv, ct, osl, h1, h2, _⟩ := F.ex
    unfold fdOf
    rw [h2]
  refine ⟨?_, D.g, F.kp, ?_⟩
  · rw [e]
    obtain ⟨oc, od, dV, kV, doc, pm, an, cdv, ct, osl, rfl, lk, hcd, _, _⟩ := F.ex
    obtain ⟨c, rfl⟩ := He.codeIn_ref hcd
    have ec : He.codeOf K (x, none) = c := He.codeOf_eq (p := (x, none)) lk rfl
    rw [ec] at body
    exact fn_of lk hcd S len fun A outer s H vs Q E hr hsp => body A outer s H vs Q E hr hsp
  · rw [e]
    exact F.bindsN hb
mutual
theorem PDR.extN {K : PySem.W.Frag} {H H' : Hp} (e : ExtN H H') : ∀ {v : V} {d : PD}, PDR K H v d → PDR K H' v d
  | _, _, .int i => .int i
  | _, _, .bl b => .bl b
  | _, _, .non => .non
  | _, _, .str x => .str x
  | _, _, .dic h => .dic (e _ _ h fun _ z => nomatch z)
  | _, _, .seq h r => .seq (by
      rcases h with ((h | ⟨o, h⟩) | h) | ((h | ⟨o, h⟩) | h)
      · exact .inl (.inl (.inl (e _ _ h fun _ z => nomatch z)))
      · exact .inl (.inl (.inr ⟨o, e _ _ h fun _ z => nomatch z⟩))
      · exact .inl (.inr h)
      · exact .inr (.inl (.inl (e _ _ h fun _ z => nomatch z)))
      · exact .inr (.inl (.inr ⟨o, e _ _ h fun _ z => nomatch z⟩))
      · exact .inr (.inr h)) (PDRs.extN e r)
theorem PDRs.extN {K : PySem.W.Frag} {H H' : Hp} (e : ExtN H H') : ∀ {vs : List V} {ds : List PD}, PDRs K H vs ds → PDRs K H' vs ds
  | _, _, .nil => .nil
  | _, _, .cons h t => .cons (PDR.extN e h) (PDRs.extN e t)
end
theorem Drw.extN {d la ca : Addr} {H H' : Hp} (e : ExtN H H') (h : Drw H d la ca) : Drw H' d la ca := by
  obtain ⟨r, t, lg, cs, h1, h2, h3, h4⟩ := h
  exact ⟨r, t, lg, cs, e _ _ h1 fun _ z => (nomatch z), e _ _ h2 fun _ z => (nomatch z), e _ _ h3 fun _ z => (nomatch z), h4⟩
theorem Same.extN {H H' : Hp} (s : Same H H') : ExtN H H' := fun b o h _ => s b o h
/-- what _law_caught is -/
structure CaughtAt (K : PySem.W.Frag) (mg : Str → Option Value) (CS : Addr) : Prop where
  D : DefAt K mg "_law_caught" sl_caught
  gS : mg "RuleError" = some (.ref CS)
section
variable {w : World} {K : PySem.W.Frag} {mg : Str → Option Value} {base : Heap}
abbrev N_fr : List Str := ["_law_draw", "_law_letters", "_law_no_letters", "_law_works", "_law_bad", "_law_worse", "_law_work"]
/-- the frame of the def -/
abbrev frX (w : World) (K : PySem.W.Frag) (mg : Str → Option Value) (base : Heap) (A : Around) (outer : List Env) (s : Shared) (H : Hp) (E : XK) : Cx :=
  cxOf CX0 PG w K mg base N_fr "_law_fractions_refused" (defScope sl_fractions_refused) (He.ga K "_law_fractions_refused") (.ref (He.codeOf K ("_law_fractions_refused", none))) A outer s H E
def teNum (X : Cx) (CS CB : Addr) : TE := fun σ' H' Q => ∀ σ0 fp, wipe σ' [6] = wipe σ0 [6] → (∀ b ∈ fp, H' b = none) → tCall (spIsNumberE CB) [] E0 (tCons (tCaught X 6 6 σ0 fp CS) (tCons (tC (.str "letters")) tNil)) σ' H' Q
def teWeb (X : Cx) (CS CW : Addr) : TE := fun σ' H' Q => ∀ σ0 fp, wipe σ' [6] = wipe σ0 [6] → (∀ b ∈ fp, H' b = none) → tCB (rIsX X.K) (tCons (tCaught X 6 6 σ0 fp CS) (tCons (tC (.ref CW)) tNil)) σ' H' Q
abbrev lamT (P : Addr) : List (Addr × Str) := [(P, (envOfC "_law_fractions_refused" (defScope sl_fractions_refused) 0 0 .none).qual ++ "<lambda>")]
/-- caught, within the block of a comprehension -/
theorem caught_blk {CS : Addr} (C : CaughtAt K mg CS) {A : Around} {outer : List Env} {s : Shared} {H : Hp} {E : XK} {pins0 : List (Addr × Obj)} {σ0 : L2.St} {s3 : Shared} {H3 : Hp} {scopeB : Scope} {cenv : Env} {fp : List Addr} {p p2 pos : Pos}
    (back : ∀ (pins' : List (Addr × Obj)) (σ' : L2.St) (H' : Hp) (s' : Shared), Inv ((frX w K mg base A outer s H E).blk s3 H3 scopeB cenv fp) pins' σ' H' s' → Inv (frX w K mg base A outer s H E) pins0 σ0 H' s')
    (hr : Room 8 (frX w K mg base A outer s H E).A) (hg : Gl ((frX w K mg base A outer s H E).blk s3 H3 scopeB cenv fp) "_law_caught") (hv : Vis cenv.scope "_law_work") :
    PE ((frX w K mg base A outer s H E).blk s3 H3 scopeB cenv fp) (.Call (.Name "_law_caught" p) [.Name "_law_work" p2] [] pos) (tCaught (frX w K mg base A outer s H E) 6 6 σ0 fp CS) := by
  obtain ⟨fd, F⟩ := C.D.F
  have hb := F.bindsN (ps := ["_law_work"]) (fun _ _ _ _ _ _ us hl => match us, hl with | [_], _ => rfl)
  obtain ⟨oc, od, dV, kV, doc, pm, an, cdv, ct, osl, rfl, lk, hcd, _, _⟩ := F.ex
  exact pe_caught (k := 6) (iw := 6) (y := "_law_work") back hg C.D.g F.kp lk hcd hb C.gS rfl hv hr (by decide) (by decide)
end
end Kz
end
section
set_option Elab.async false
set_option linter.all false
set_option maxRecDepth 100000
set_option maxHeartbeats 4000000
/-! the law's refusals, 2 -/
namespace Kz
open PySem PySem.Spec PyProof.Rows L2 LamX KzM
section
variable {w : World} {K : PySem.W.Frag} {mg : Str → Option Value} {base : Heap}
/-- a lambda that stands -/
def LamF (X : Cx) (H : Hp) (f c' : Addr) (params : Arguments) (body : Expr) (scope : Scope) : Prop := H f = some (LamAt (X.env.qual ++ "<lambda>") params body scope X.env.cells f c') ∧ H c' = some (CodeO c' (X.env.qual ++ "<lambda>")) ∧ f ≠ c' ∧ f ∉ frs X.stack
theorem LamF.extN {X : Cx} {H H' : Hp} {f c' : Addr} {params : Arguments} {body : Expr} {scope : Scope} (e : ExtN H H') (h : LamF X H f c' params body scope) : LamF X H' f c' params body scope :=
  ⟨e _ _ h.1 fun _ z => (nomatch z), e _ _ h.2.1 fun _ z => (nomatch z), h.2.2⟩
theorem lam_new {X : Cx} {H1 : Hp} {f c' : Addr} {params : Arguments} {body : Expr} {scope : Scope} (nf : H1 f = none) (fr : f ∉ frs X.stack) (hc : H1 c' = some (CodeO c' (X.env.qual ++ "<lambda>"))) : LamF X (upd H1 f (LamAt (X.env.qual ++ "<lambda>") params body scope X.env.cells f c')) f c' params body scope := by
  have ne : c' ≠ f := ne_of_none hc nf
  exact ⟨upd_same, by rw [upd_ne ne]; exact hc, ne.symm, fr⟩
theorem lst1 {t : TA} {σ : L2.St} {H : Hp} {Q : VK} (h : t σ H fun xs H1 => xs.length ≤ sizeLine ∧ ∀ p, H1 p = none → Q (.ref p) (upd H1 p (.lst xs))) : tLst t σ H Q := h
/-- an address at which nothing stood but a table -/
def NewT (H : Hp) (f : Addr) : Prop := ∀ o, H f = some o → ∃ ps, o = .tbl ps
theorem NewT.of {H H' : Hp} {f : Addr} (e : ExtN H H') (h : NewT H' f) : NewT H f := fun o ho => Classical.byContradiction fun z => by
  obtain ⟨ps, q⟩ := h o (e _ _ ho fun ps q => z ⟨ps, q⟩)
  exact z ⟨ps, q⟩
theorem away {H H' : Hp} {f : Addr} (e : ExtN H H') (n : NewT H f) : ExtN H (delH H' f) := fun b o hb nt => by
  have ne : b ≠ f := fun z => by
    rw [z] at hb
    obtain ⟨ps, q⟩ := n o hb
    exact nt ps q
  rw [delH_ne ne]
  exact e _ _ hb nt
theorem tlam_read {X : Cx} {T : List (Addr × Str)} {params : Arguments} {body : Expr} {scope : Scope} {σ : L2.St} {H : Hp} {Q : VK} (hT : Tabs T H) (h : ∀ f c' H', ExtN H H' → Tabs T H' → LamF X H' f c' params body scope → NewT H f → Q (.ref f) H') : tLamO X T params body scope σ H Q :=
  ⟨hT, fun f c' H1 x t nf fr hc => h f c' _ (x.trans (Same.extN (Same.new nf))) (t.ext (Same.new nf)) (lam_new nf fr hc) (NewT.of x fun o ho => by rw [nf] at ho; cases ho)⟩
/-- what stands, stands behind a caught error too -/
theorem back_same {H' Hx : Hp} {f a : Addr} {o x : HO} (hf : H' f = some o) (s : Same (delH H' f) Hx) (ha : Hx a = none) : Same H' (upd (upd Hx a x) f o) := fun b u hb => by
  by_cases e : b = f
  · rw [e] at hb ⊢
    rw [upd_same, ← hb, hf]
  · have h1 : delH H' f b = some u := by rw [delH_ne e]; exact hb
    have h2 := s _ _ h1
    rw [upd_ne e, upd_ne (ne_of_none h2 ha)]
    exact h2
section
variable {X : Cx} {CS CB CW : Addr} {σ' : L2.St} {H' : Hp} {f c' : Addr} {params : Arguments} {body : Expr} {scope : Scope} {t : XK → TE} {C : VK}
theorem num_step (xm : PySem.W.exmOne X.K (.ref CB) (.ref CS) = some true) (F : LamF X H' f c' params body scope) (G : LamGood X 6 params body scope t) (hs : σ'[6]? = some (some (.ref f)))
    (hT : ∀ (E : XK) (σ0 : L2.St) (Qn : VK), wipe σ' [6] = wipe σ0 [6] → (∀ e, delH H' f e = none → E (.ref CB) (some e) (upd (delH H' f) e (.xd [("part", .str "letters")]))) → t E σ0 (delH H' f) Qn)
    (kC : ∀ H4, Same H' H4 → C (.bl true) H4) : teNum X CS CB σ' H' C := by
  obtain ⟨hf, hc, hne, hfr⟩ := F
  intro σ0 fp hw hfp
  refine ⟨f, c', params, body, scope, t, G, hs, hf, hc, hne, hfr, fun z => (by have := hfp f z; rw [hf] at this; cases this), fun Qn => hT _ σ0 Qn hw fun e he => ⟨xm, fun a ha hn => ?_⟩⟩
  have na : a ≠ f := fun z => by
    rw [z, upd_same] at hn
    cases hn
  have ne : e ≠ f := fun z => by
    rw [upd_ne (Ne.symm na), z, upd_same] at hn
    cases hn
  have nea : e ≠ a := fun z => by
    rw [← z, upd_same] at ha
    cases ha
  refine ⟨a, e, rfl, by rw [upd_ne na, upd_same], by rw [upd_ne ne, upd_ne nea, upd_same], kC _ (back_same hf (Same.new he) ha)⟩
theorem web_step (xm : PySem.W.exmOne X.K (.ref CW) (.ref CS) = some true) (XA : ExcA X.K CW) (F : LamF X H' f c' params body scope) (G : LamGood X 6 params body scope t) (hs : σ'[6]? = some (some (.ref f)))
    (hT : ∀ (E : XK) (σ0 : L2.St) (Qn : VK), wipe σ' [6] = wipe σ0 [6] → (∀ Hx, Same (delH H' f) Hx → E (.ref CW) none Hx) → t E σ0 (delH H' f) Qn)
    (kC : ∀ H4, Same H' H4 → C (.bl true) H4) : teWeb X CS CW σ' H' C := by
  obtain ⟨hf, hc, hne, hfr⟩ := F
  intro σ0 fp hw hfp
  refine ⟨f, c', params, body, scope, t, G, hs, hf, hc, hne, hfr, fun z => (by have := hfp f z; rw [hf] at this; cases this), fun Qn => hT _ σ0 Qn hw fun Hx sx => ⟨xm, fun a ha hn => ?_⟩⟩
  have na : a ≠ f := fun z => by
    rw [z, upd_same] at hn
    cases hn
  exact ⟨a, CW, none, rfl, by rw [upd_ne na, upd_same], fun _ z => (by cases z), XA, kC _ (back_same hf sx ha)⟩
end
theorem wipe_at {σ' σ0 : L2.St} {i : Nat} (h : wipe σ' [6] = wipe σ0 [6]) (hi : i ≠ 6) : σ0[i]? = σ'[i]? := by
  rw [← wipe_out (σ := σ0) (vs := [6]) (by simpa using hi), ← h, wipe_out (by simpa using hi)]
def spRefused (K : PySem.W.Frag) : Sp := fun vs H Q _ => ∃ (d la ca : Addr) (L : Nat), vs = [.ref d, .int (L : Nat)] ∧ Drw H d la ca ∧ 2 ≤ L ∧ L ≤ 9 ∧ H (He.cT K ("_law_fractions_refused", none)).2 = some (.tbl #[]) ∧ ∀ H', Q (.bl true) H'
/-- the first lambdas: a value that is no number of letters -/
theorem lam_a {CB CW : Addr} {e : Int} {F : Nat → List Trip → List Nat → Ser × Ser} {E : XK} {σ0 : L2.St} {H : Hp} {Qn : VK} {v : V} {dv : PD} (h2 : σ0[2]? = some (some v)) (pd : PDR K H v dv) (nb : btwD dv 1 9 = false) (hE : ∀ e, H e = none → E (.ref CB) (some e) (upd H e (.xd [("part", .str "letters")]))) :
    tCall (spFrac K CB CW e F) [] E (tCons (tVar 2) (tCons (tC .non) (tCons (tC .non) tNil))) σ0 H Qn := by
  refine ⟨v, h2, .inr ⟨_, dv, _, .oth, _, .oth, rfl, pd, fun _ => hE, fun n en hb => ?_⟩⟩
  rw [hb] at nb
  cases nb
theorem lam_b {CB CW : Addr} {e : Int} {F : Nat → List Trip → List Nat → Ser × Ser} {E : XK} {σ0 : L2.St} {H : Hp} {Qn : VK} {L : Nat} {v : V} {dv : PD} (L2 : 2 ≤ L) (L9 : L ≤ 9) (h1 : σ0[1]? = some (some (.int (L : Nat)))) (h4 : σ0[4]? = some (some v)) (pd : PDR K H v dv) (few : fewD dv) (nb : linesD L dv = false) (hE : ∀ Hx, Same H Hx → E (.ref CW) none Hx) :
    tCall (spFrac K CB CW e F) [] E (tCons (tVar 1) (tCons (tVar 4) (tCons (tLst tNil) tNil))) σ0 H Qn := by
  refine ⟨_, h1, _, h4, Nat.zero_le _, fun p hp => .inr ⟨_, .int (L : Nat), _, dv, _, .seq [], rfl, .int _, fun z => ?_, fun n en hb => ?_⟩⟩
  · simp [btwD] at z
    omega
  · cases en
    have s := Same.new (o := .lst []) hp
    exact ⟨pd.mono s, few, .seq (.inl (SqL.of upd_same)) .nil, ⟨by show 0 < 64; decide, fun _ h => (by cases h)⟩, by rw [nb]; rfl, fun H' s' => hE _ (s.trans s')⟩
theorem lam_c {CB CW : Addr} {e : Int} {F : Nat → List Trip → List Nat → Ser × Ser} {E : XK} {σ0 : L2.St} {H : Hp} {Qn : VK} {L : Nat} {v : V} {dv : PD} (L2 : 2 ≤ L) (L9 : L ≤ 9) (h1 : σ0[1]? = some (some (.int (L : Nat)))) (h5 : σ0[5]? = some (some v)) (pd : PDR K H v dv) (few : fewD dv) (nb : nothD L dv = false) (hE : ∀ Hx, Same H Hx → E (.ref CW) none Hx) :
    tCall (spFrac K CB CW e F) [] E (tCons (tVar 1) (tCons (tLst tNil) (tCons (tVar 5) tNil))) σ0 H Qn := by
  refine ⟨_, h1, Nat.zero_le _, fun p hp => ⟨_, h5, .inr ⟨_, .int (L : Nat), _, .seq [], _, dv, rfl, .int _, fun z => ?_, fun n en hb => ?_⟩⟩⟩
  · simp [btwD] at z
    omega
  · cases en
    have s := Same.new (o := .lst []) hp
    exact ⟨.seq (.inl (SqL.of upd_same)) .nil, ⟨by show 0 < 64; decide, fun _ h => (by cases h)⟩, pd.mono s, few, by rw [nb, Bool.and_false], fun H' s' => hE _ (s.trans s')⟩
/-- the elements of the two comprehensions -/
theorem num_el {CS CB : Addr} (CA : CaughtAt K mg CS) {A : Around} {outer : List Env} {s : Shared} {H : Hp} {E : XK} {pins0 : List (Addr × Obj)} {σ0 : L2.St} {s3 : Shared} {H3 : Hp} {scopeB : Scope} {cenv : Env} {fp : List Addr} {p p1 p2 p3 pos : Pos} {e2 : Expr}
    (f_is_number : FnS PG w K mg base CX0 1 "_law_is_number" ["_law_caught_here", "_law_part"] (spIsNumberE CB))
    (back : ∀ (pins' : List (Addr × Obj)) (σ' : L2.St) (H' : Hp) (s' : Shared), Inv ((frX w K mg base A outer s H E).blk s3 H3 scopeB cenv fp) pins' σ' H' s' → Inv (frX w K mg base A outer s H E) pins0 σ0 H' s')
    (hr : Room 8 (frX w K mg base A outer s H E).A) (hg : Gl ((frX w K mg base A outer s H E).blk s3 H3 scopeB cenv fp) "_law_is_number") (hg2 : Gl ((frX w K mg base A outer s H E).blk s3 H3 scopeB cenv fp) "_law_caught") (hv : Vis cenv.scope "_law_work")
    (h2 : PE ((frX w K mg base A outer s H E).blk s3 H3 scopeB cenv fp) e2 (tC (.str "letters")))
    (he : starEach [.Call (.Name "_law_caught" p1) [.Name "_law_work" p2] [] p3, e2] cenv = (false, eval (.Call (.Name "_law_caught" p1) [.Name "_law_work" p2] [] p3) cenv) :: starEach [e2] cenv) (hpl : (backTo pos (starEach [e2] cenv)).any (·.1) = false) (he2 : starEach [e2] cenv = (false, eval e2 cenv) :: starEach [] cenv) :
    PE ((frX w K mg base A outer s H E).blk s3 H3 scopeB cenv fp) (.Call (.Name "_law_is_number" p) [.Call (.Name "_law_caught" p1) [.Name "_law_work" p2] [] p3, e2] [] pos) (tCall (spIsNumberE CB) [] E0 (tCons (tCaught (frX w K mg base A outer s H E) 6 6 σ0 fp CS) (tCons (tC (.str "letters")) tNil))) :=
  pe_call f_is_number.ok (hr.mono (by decide)) hg f_is_number.g f_is_number.kp f_is_number.b .nil pass0 (pa_cons (caught_blk CA back hr hg2 hv) (pa_cons h2 pa_nil he2) he) (by decide) he hpl
theorem web_el {CS CW : Addr} (CA : CaughtAt K mg CS) (T : Txt K mg) (WB : WbT K mg CW) {A : Around} {outer : List Env} {s : Shared} {H : Hp} {E : XK} {pins0 : List (Addr × Obj)} {σ0 : L2.St} {s3 : Shared} {H3 : Hp} {scopeB : Scope} {cenv : Env} {fp : List Addr} {p p1 p2 p3 p4 pos : Pos}
    (back : ∀ (pins' : List (Addr × Obj)) (σ' : L2.St) (H' : Hp) (s' : Shared), Inv ((frX w K mg base A outer s H E).blk s3 H3 scopeB cenv fp) pins' σ' H' s' → Inv (frX w K mg base A outer s H E) pins0 σ0 H' s')
    (hr : Room 8 (frX w K mg base A outer s H E).A) (hg : Gl ((frX w K mg base A outer s H E).blk s3 H3 scopeB cenv fp) "isinstance") (hg2 : Gl ((frX w K mg base A outer s H E).blk s3 H3 scopeB cenv fp) "_law_caught") (hg3 : Gl ((frX w K mg base A outer s H E).blk s3 H3 scopeB cenv fp) "BadWeb") (hv : Vis cenv.scope "_law_work")
    (he : starEach [.Call (.Name "_law_caught" p1) [.Name "_law_work" p2] [] p3, .Name "BadWeb" p4] cenv = (false, eval (.Call (.Name "_law_caught" p1) [.Name "_law_work" p2] [] p3) cenv) :: starEach [.Name "BadWeb" p4] cenv) (hpl : (backTo pos (starEach [.Name "BadWeb" p4] cenv)).any (·.1) = false) (he2 : starEach [.Name "BadWeb" p4] cenv = (false, eval (.Name "BadWeb" p4) cenv) :: starEach [] cenv) :
    PE ((frX w K mg base A outer s H E).blk s3 H3 scopeB cenv fp) (.Call (.Name "isinstance" p) [.Call (.Name "_law_caught" p1) [.Name "_law_work" p2] [] p3, .Name "BadWeb" p4] [] pos) (tCB (rIsX K) (tCons (tCaught (frX w K mg base A outer s H E) 6 6 σ0 fp CS) (tCons (tC (.ref CW)) tNil))) :=
  pe_callB (call_isX : CallR _ _ (rIsX K)) hg T.isinstance_ bo_isinstance (pa_cons (caught_blk CA back hr hg2 hv) (pa_cons (pe_glob (v := .ref CW) hg3 WB.g rfl) pa_nil he2) he) (by decide) (by decide) he hpl
end
end Kz
end
section
set_option Elab.async false
set_option linter.all false
set_option maxRecDepth 100000
set_option maxHeartbeats 4000000
/-! the law's refusals, 3 -/
namespace Kz
open PySem PySem.Spec PyProof.Rows L2 LamX KzM
section
variable {w : World} {K : PySem.W.Frag} {mg : Str → Option Value} {base : Heap}
theorem lamS_fr {scope : Scope} (h : lamSB (defScope sl_fractions_refused) scope = true) : LamS (defScope sl_fractions_refused) scope := lamS_by h
abbrev N_fractions_refused : List Str := ["_law_draw", "_law_letters", "_law_no_letters", "_law_works", "_law_bad", "_law_worse", "_law_work"]
theorem sc_fractions_refused : FnScope N_fractions_refused ["_law_draw", "_law_letters"] (defScope sl_fractions_refused) := ⟨rfl, rfl, rfl, by decide +kernel, rfl, by decide +kernel, by decide +kernel⟩
theorem f_law_fractions_refused {CS CB CW fB : Addr} (D : DefAt K mg "_law_fractions_refused" sl_fractions_refused) (T : Txt K mg) (TB : TabB base mg (He.cT K ("_law_fractions_refused", none)).1 (He.cT K ("_law_fractions_refused", none)).2) (CA : CaughtAt K mg CS) (WB : WbT K mg CW) (XB : ExcA K CB) (XW : ExcA K CW)
    (xB : PySem.W.exmOne K (.ref CB) (.ref CS) = some true) (xW : PySem.W.exmOne K (.ref CW) (.ref CS) = some true)
    (f_pick : FnS PG w K mg base CX0 3 "_law_pick" ["_law_draw", "_law_some"] (spPick K)) (f_is_number : FnS PG w K mg base CX0 1 "_law_is_number" ["_law_caught_here", "_law_part"] (spIsNumberE CB))
    (f_bad_lines : FnS PG w K mg base CX0 1 "_law_bad_lines" ["_law_letters"] (spBadLines K)) (f_bad_nothings : FnS PG w K mg base CX0 1 "_law_bad_nothings" ["_law_letters"] (spBadNoth K))
    (f_web_fraction : FnS PG w K mg base (L2.CX PG w) 6 "web_fraction" ["letters", "lines", "nothings"] (spFrac K CB CW 1 webF)) (f_shut_fraction : FnS PG w K mg base (L2.CX PG w) 6 "shut_fraction" ["letters", "lines", "nothings"] (spFrac K CB CW (-1) shutF)) :
    FnS PG w K mg base CX0 9 "_law_fractions_refused" ["_law_draw", "_law_letters"] (spRefused K) :=
  mkFnC D sc_fractions_refused (fun _ _ _ _ _ _ us hl => match us, hl with | [_, _], _ => rfl) (fun vs H Q E ⟨_, _, _, _, e, _⟩ => by rw [e]; rfl) fun A outer s H vs Q E hr ⟨d, la, ca, L, e, hd, L2', L9, hP, q⟩ => by
  subst e
  have big : 10000 < sizeLine := by decide
  refine ⟨_, (pss_cons (ps_set (i := 2) sc_fractions_refused.nd rfl (.inr rfl) (pe_call f_pick.ok (hr.mono (by decide)) rfl f_pick.g f_pick.kp f_pick.b .nil pass0 (pa_cons (pv 0) (pa_cons (pe_lst (pa_cons pe_int (pa_cons pe_int (pa_cons pe_non (pa_cons pe_bl (pa_cons pe_str (pa_cons (pe_un un_neg pe_int) pa_nil))))))) pa_nil))))
      (pss_cons (ps_set (i := 3) sc_fractions_refused.nd rfl (.inl rfl) (pe_lst (pa_cons (pe_lam (T := lamT (He.cT K ("_law_fractions_refused", none)).2) TB rfl (List.mem_singleton.mpr rfl) (fun p hp _ => by rw [List.mem_singleton.mp hp]; rfl) (lamS_fr (by decide +kernel)) rfl) (pa_cons (pe_lam (T := lamT (He.cT K ("_law_fractions_refused", none)).2) TB rfl (List.mem_singleton.mpr rfl) (fun p hp _ => by rw [List.mem_singleton.mp hp]; rfl) (lamS_fr (by decide +kernel)) rfl) pa_nil))))
      (pss_cons (ps_if (pt_not (pt_val (pe_callB (cr_all rfl) (by rfl) T.all_ bo_all (pa_cons (pe_lcB (own := [("_law_work", 6)]) (g := gName 6) (te := teNum (frX w K mg base A outer s H E) CS CB) rfl sc_fractions_refused.nd (pi_list (pv 3)) (blkOk_by (N := N_fractions_refused) (sc := defScope sl_fractions_refused) (by decide +kernel)) (fun _ _ _ _ _ => pg_name (i := 6) sc_fractions_refused.nd rfl (.inl rfl)) (fun pins σ s3 H3 C cl fp I back pins' s' σ' H' Q I' hfp hw h => (num_el CA f_is_number back hr rfl rfl (.inl rfl) pe_str rfl rfl rfl).run pins' s' σ' H' Q I' (h σ fp hw hfp))) pa_nil)))) (pss_one (ps_ret pe_bl)) pss_nil)
      (pss_cons (ps_asg (pe_tup (pa_cons (pe_call f_pick.ok (hr.mono (by decide)) rfl f_pick.g f_pick.kp f_pick.b .nil pass0 (pa_cons (pv 0) (pa_cons (pe_call f_bad_lines.ok (hr.mono (by decide)) rfl f_bad_lines.g f_bad_lines.kp f_bad_lines.b .nil pass0 (pa_cons (pv 1) pa_nil)) pa_nil))) (pa_cons (pe_call f_pick.ok (hr.mono (by decide)) rfl f_pick.g f_pick.kp f_pick.b .nil pass0 (pa_cons (pv 0) (pa_cons (pe_call f_bad_nothings.ok (hr.mono (by decide)) rfl f_bad_nothings.g f_bad_nothings.kp f_bad_nothings.b .nil pass0 (pa_cons (pv 1) pa_nil)) pa_nil))) pa_nil))) (pg_tup rfl (pgs_cons (pg_name (i := 4) sc_fractions_refused.nd rfl (.inr rfl)) (pgs_cons (pg_name (i := 5) sc_fractions_refused.nd rfl (.inr rfl)) pgs_nil))))
      (pss_cons (ps_set (i := 3) sc_fractions_refused.nd rfl (.inl rfl) (pe_lst (pa_cons (pe_lam (T := lamT (He.cT K ("_law_fractions_refused", none)).2) TB rfl (List.mem_singleton.mpr rfl) (fun p hp _ => by rw [List.mem_singleton.mp hp]; rfl) (lamS_fr (by decide +kernel)) rfl) (pa_cons (pe_lam (T := lamT (He.cT K ("_law_fractions_refused", none)).2) TB rfl (List.mem_singleton.mpr rfl) (fun p hp _ => by rw [List.mem_singleton.mp hp]; rfl) (lamS_fr (by decide +kernel)) rfl) pa_nil))))
      (pss_cons (ps_set (i := 3) sc_fractions_refused.nd rfl (.inl rfl) (pe_op op_cat (pv 3) (pe_lst (pa_cons (pe_lam (T := lamT (He.cT K ("_law_fractions_refused", none)).2) TB rfl (List.mem_singleton.mpr rfl) (fun p hp _ => by rw [List.mem_singleton.mp hp]; rfl) (lamS_fr (by decide +kernel)) rfl) (pa_cons (pe_lam (T := lamT (He.cT K ("_law_fractions_refused", none)).2) TB rfl (List.mem_singleton.mpr rfl) (fun p hp _ => by rw [List.mem_singleton.mp hp]; rfl) (lamS_fr (by decide +kernel)) rfl) pa_nil)))))
      (pss_one (ps_ret (pe_callB (cr_all rfl) (by rfl) T.all_ bo_all (pa_cons (pe_lcB (own := [("_law_work", 6)]) (g := gName 6) (te := teWeb (frX w K mg base A outer s H E) CS CW) rfl sc_fractions_refused.nd (pi_list (pv 3)) (blkOk_by (N := N_fractions_refused) (sc := defScope sl_fractions_refused) (by decide +kernel)) (fun _ _ _ _ _ => pg_name (i := 6) sc_fractions_refused.nd rfl (.inl rfl)) (fun pins σ s3 H3 C cl fp I back pins' s' σ' H' Q I' hfp hw h => (web_el CA T WB back hr rfl rfl rfl (.inl rfl) rfl rfl rfl).run pins' s' σ' H' Q I' (h σ fp hw hfp))) pa_nil)))))))))), ?_⟩
  obtain ⟨P, eP⟩ : ∃ P, (He.cT K ("_law_fractions_refused", none)).2 = P := ⟨_, rfl⟩
  rw [eP] at hP
  have badv : ∀ v ∈ [V.int 0, V.int 10, V.non, V.bl true, V.str "2", V.int (-1)], ∀ H : Hp, ∃ dv, PDR K H v dv ∧ btwD dv 1 9 = false := fun v hv H => by
    simp only [List.mem_cons, List.not_mem_nil, or_false] at hv
    rcases hv with h | h | h | h | h | h <;> subst h
    · exact ⟨_, .int 0, by decide⟩
    · exact ⟨_, .int 10, by decide⟩
    · exact ⟨_, .non, rfl⟩
    · exact ⟨_, .bl true, rfl⟩
    · exact ⟨_, .str "2", rfl⟩
    · exact ⟨_, .int (-1), by decide⟩
  refine seq1 (asg1 ⟨_, rfl, 1, rfl, (by show 6 ≤ sizeLine; decide), fun l hl => ?_⟩)
  have nl := hd.new hl
  refine ⟨d, la, ca, l, [V.int 0, V.int 10, V.non, V.bl true, V.str "2", V.int (-1)], rfl, hd.mono (Same.new hl), SqL.of (out_of upd_same nl.1 nl.2.1), by decide, by decide, fun H1 v d1 hv => ?_⟩
  have d01 : Drn d la ca H H1 := (Drn.of hd (Same.new hl)).trans d1
  have nP : P ≠ d ∧ P ≠ la := by
    obtain ⟨r, t, lg, cs, h1, h2, _⟩ := id hd
    exact ⟨ne_of hP h1 (by intro z; cases z), ne_of hP h2 (by intro z; cases z)⟩
  have hP1 : H1 P = some (.tbl #[]) := d01.keep hP nP.1 nP.2
  have tb1 : Tabs (lamT (He.cT K ("_law_fractions_refused", none)).2) H1 := fun p hp => by
    rw [List.mem_singleton.mp hp, eP]
    exact TabS.nil hP1
  dsimp only
  refine seq1 (asg1 (lst1 (cons1 (tlam_read tb1 fun f1 c1 H2 x2 tb2 F1 _ => cons1 (tlam_read tb2 fun f2 c2 H3 x3 tb3 F2 _ => ⟨(by show 2 ≤ sizeLine; decide), fun l2 hl2 => ?_⟩)))))
  have s34 : Same H3 (upd H3 l2 (.lst [.ref f1, .ref f2])) := Same.new hl2
  have LL1 := (F1.extN x3).extN (Same.extN s34)
  have LL2 := F2.extN (Same.extN s34)
  have tb4 := tb3.ext s34
  have dw4 := d1.2.extN ((x2.trans x3).trans (Same.extN s34))
  have e4 : (upd H3 l2 (.lst [.ref f1, .ref f2])) l2 = some (.lst [.ref f1, .ref f2]) := upd_same
  generalize (upd H3 l2 (.lst [.ref f1, .ref f2])) = H4 at s34 LL1 LL2 tb4 dw4 e4 ⊢
  dsimp only
  refine seq1 (if1 ⟨_, rfl, l2, rfl, ⟨_, SqL.of e4⟩, lc_walkV (wk_list (K := K) (xs := [V.ref f1, V.ref f2])) (fun _ => .bl true) (by show 2 < sizeLine; decide) (SqL.of e4) (fun D2 i x H5 C hi it s5 hD5 ac kC => ?_) fun D2 H5 s5 hD5 e5 => ?_⟩)
  · refine ⟨rfl, ?_⟩
    have it : ([V.ref f1, V.ref f2])[i]? = some x := it
    match i, it with
    | 0, it =>
      obtain rfl : V.ref f1 = x := Option.some.inj it
      refine num_step xB (t := fun E => tCall (spFrac K CB CW 1 webF) [] E (tCons (tVar 2) (tCons (tC .non) (tCons (tC .non) tNil)))) (LL1.extN (Same.extN s5)) ⟨lamS_fr (by decide +kernel), fun _ _ _ _ _ => rfl, fun A outer s H E f c' hr => pe_call f_web_fraction.ok hr rfl f_web_fraction.g f_web_fraction.kp f_web_fraction.b .nil (passes_call (takes_of rfl rfl rfl rfl) fun _ _ _ _ h => h) (pa_cons (pv 2) (pa_cons pe_non (pa_cons pe_non pa_nil)))⟩ rfl (fun E σ0 Qn hw hE => ?_) kC
      obtain ⟨dv, pd, nb⟩ := badv v hv (delH H5 f1)
      exact lam_a (by rw [wipe_at hw (by decide)]; rfl) pd nb hE
    | 1, it =>
      obtain rfl : V.ref f2 = x := Option.some.inj it
      refine num_step xB (t := fun E => tCall (spFrac K CB CW (-1) shutF) [] E (tCons (tVar 2) (tCons (tC .non) (tCons (tC .non) tNil)))) (LL2.extN (Same.extN s5)) ⟨lamS_fr (by decide +kernel), fun _ _ _ _ _ => rfl, fun A outer s H E f c' hr => pe_call f_shut_fraction.ok hr rfl f_shut_fraction.g f_shut_fraction.kp f_shut_fraction.b .nil (passes_call (takes_of rfl rfl rfl rfl) fun _ _ _ _ h => h) (pa_cons (pv 2) (pa_cons pe_non (pa_cons pe_non pa_nil)))⟩ rfl (fun E σ0 Qn hw hE => ?_) kC
      obtain ⟨dv, pd, nb⟩ := badv v hv (delH H5 f2)
      exact lam_a (by rw [wipe_at hw (by decide)]; rfl) pd nb hE
  · refine ⟨D2, [true, true], rfl, SqL.of e5, _, rfl, iteF' rfl ?_⟩
    dsimp only [tNext]
    have dw5 := dw4.mono s5
    have tb5 := tb4.ext s5
    refine seq1 (asg1 ⟨_, rfl, _, rfl, L, rfl, fun H6 g6 ys6 ds6 s6 hg6 e6 pd6 l61 l62 hb6 => ⟨d, la, ca, g6, ys6, rfl, dw5.mono s6, SqL.of (out_of e6 (dw5.new hg6).1 (dw5.new hg6).2.1), l61, l62, fun H7 vb d7 hvb => ?_⟩⟩)
    obtain ⟨db, hdb, pdb⟩ := pdrs_mem pd6 vb hvb
    obtain ⟨fewb, nbb⟩ := hb6 db hdb
    have pdb := (pdb.mono (new_out dw5)).mono d7.1
    refine ⟨_, rfl, _, rfl, L, rfl, fun H8 g8 ys8 ds8 s8 hg8 e8 pd8 l81 l82 hb8 => ⟨d, la, ca, g8, ys8, rfl, d7.2.mono s8, SqL.of (out_of e8 (d7.2.new hg8).1 (d7.2.new hg8).2.1), l81, l82, fun H9 vw d9 hvw => ⟨(by show 2 ≤ sizeLine; decide), fun t ht => ⟨t, _, rfl, SqT.of upd_same, rfl, _, _, rfl, _, _, rfl, rfl, ?_⟩⟩⟩⟩
    obtain ⟨dw, hdw, pdw⟩ := pdrs_mem pd8 vw hvw
    obtain ⟨feww, nbw⟩ := hb8 dw hdw
    have s910 : Same H9 (upd H9 t (.tup [vb, vw])) := Same.new ht
    have pdw := ((((pdw.mono (new_out d7.2)).mono d9.1)).mono out_in).mono s910
    have pdb := (((pdb.mono (Same.out s8)).mono d9.1).mono out_in).mono s910
    -- the table of the lambdas through the draws
    have tbk : ∀ H H', Drn d la ca H H' → Tabs (lamT (He.cT K ("_law_fractions_refused", none)).2) H → Drw H d la ca → Tabs (lamT (He.cT K ("_law_fractions_refused", none)).2) H' := fun H H' dr tb hdw p hp => by
      obtain ⟨ps, h1, h2, h3⟩ := tb p hp
      obtain ⟨r, t, lg, cs, g1, g2, _⟩ := hdw
      refine ⟨ps, dr.keep h1 (ne_of h1 g1 (by intro z; cases z)) (ne_of h1 g2 (by intro z; cases z)), h2, fun pos cv hc => ?_⟩
      obtain ⟨c, e1, e2⟩ := h3 pos cv hc
      exact ⟨c, e1, dr.keep e2 (ne_of e2 g1 (by intro z; cases z)) (ne_of e2 g2 (by intro z; cases z))⟩
    have tb10 := (tbk _ _ d9 ((tbk _ _ d7 (tb5.ext s6) (dw5.mono s6)).ext s8) (d7.2.mono s8)).ext s910
    generalize (upd H9 t (.tup [vb, vw])) = H10 at s910 pdw pdb tb10 ⊢
    dsimp only
    refine seq1 (asg1 (lst1 (cons1 (tlam_read tb10 fun g1 c1 H11 x11 tb11 N1 w1 => cons1 (tlam_read tb11 fun g2 c2 H12 x12 tb12 N2 w2 => ⟨(by show 2 ≤ sizeLine; decide), fun l3 hl3 => ?_⟩)))))
    have s13 : Same H12 (upd H12 l3 (.lst [.ref g1, .ref g2])) := Same.new hl3
    have e13 : (upd H12 l3 (.lst [.ref g1, .ref g2])) l3 = some (.lst [.ref g1, .ref g2]) := upd_same
    have tb13 := tb12.ext s13
    generalize (upd H12 l3 (.lst [.ref g1, .ref g2])) = H13 at s13 e13 tb13 ⊢
    dsimp only
    refine seq1 (asg1 (op1 ⟨_, rfl, lst1 (cons1 (tlam_read tb13 fun g3 c3 H14 x14 tb14 N3 w3 => cons1 (tlam_read tb14 fun g4 c4 H15 x15 tb15 N4 w4 => ⟨(by show 2 ≤ sizeLine; decide), fun l4 hl4 => ?_⟩)))⟩))
    have s15 : Same H15 (upd H15 l4 (.lst [.ref g3, .ref g4])) := Same.new hl4
    have e3' := s15 _ _ (x15 _ _ (x14 _ _ e13 fun _ z => nomatch z) fun _ z => nomatch z)
    refine ⟨l3, l4, _, _, rfl, rfl, e3', upd_same, by show 4 ≤ sizeLine; decide, fun l5 hl5 => ?_⟩
    have s16 : Same (upd H15 l4 (.lst [.ref g3, .ref g4])) (upd (upd H15 l4 (.lst [.ref g3, .ref g4])) l5 (.lst ([.ref g1, .ref g2] ++ [.ref g3, .ref g4]))) := Same.new hl5
    have s56 := s15.trans s16
    have e16 : (upd (upd H15 l4 (.lst [.ref g3, .ref g4])) l5 (.lst ([.ref g1, .ref g2] ++ [.ref g3, .ref g4]))) l5 = some (.lst [.ref g1, .ref g2, .ref g3, .ref g4]) := upd_same
    generalize (upd (upd H15 l4 (.lst [.ref g3, .ref g4])) l5 (.lst ([.ref g1, .ref g2] ++ [.ref g3, .ref g4]))) = H16 at s56 e16 ⊢
    have y13 : ExtN H13 H16 := (x14.trans x15).trans (Same.extN s56)
    have y12 : ExtN H12 H16 := (Same.extN s13).trans y13
    have y10 : ExtN H10 H16 := (x11.trans x12).trans y12
    have M1 := (N1.extN x12).extN y12
    have M2 := N2.extN y12
    have M3 := (N3.extN x15).extN (Same.extN s56)
    have M4 := N4.extN (Same.extN s56)
    have v1 : NewT H10 g1 := w1
    have v2 : NewT H10 g2 := w2.of x11
    have v3 : NewT H10 g3 := w3.of ((x11.trans x12).trans (Same.extN s13))
    have v4 : NewT H10 g4 := w4.of (((x11.trans x12).trans (Same.extN s13)).trans x14)
    dsimp only
    refine ret1 (tcb1 ⟨_, rfl, l5, rfl, ⟨_, SqL.of e16⟩, lc_walkV (wk_list (K := K) (xs := [V.ref g1, V.ref g2, V.ref g3, V.ref g4])) (fun _ => .bl true) (by show 4 < sizeLine; decide) (SqL.of e16) (fun D2 i x H17 C hi it s17 hD17 ac kC => ?_) fun D2 H17 s17 hD17 e17 => ?_⟩)
    · refine ⟨rfl, ?_⟩
      have it : ([V.ref g1, V.ref g2, V.ref g3, V.ref g4])[i]? = some x := it
      match i, it with
      | 0, it =>
        obtain rfl : V.ref g1 = x := Option.some.inj it
        refine web_step xW XW (t := fun E => tCall (spFrac K CB CW 1 webF) [] E (tCons (tVar 1) (tCons (tVar 4) (tCons (tLst tNil) tNil)))) (M1.extN (Same.extN s17)) ⟨lamS_fr (by decide +kernel), fun _ _ _ _ _ => rfl, fun A outer s H E f c' hr => pe_call f_web_fraction.ok hr rfl f_web_fraction.g f_web_fraction.kp f_web_fraction.b .nil (passes_call (takes_of rfl rfl rfl rfl) fun _ _ _ _ h => h) (pa_cons (pv 1) (pa_cons (pv 4) (pa_cons (pe_lst pa_nil) pa_nil)))⟩ rfl (fun E σ0 Qn hw hE => ?_) kC
        exact lam_b L2' L9 (by rw [wipe_at hw (by decide)]; rfl) (by rw [wipe_at hw (by decide)]; rfl) (PDR.extN (away (y10.trans (Same.extN s17)) v1) pdb) fewb nbb hE
      | 1, it =>
        obtain rfl : V.ref g2 = x := Option.some.inj it
        refine web_step xW XW (t := fun E => tCall (spFrac K CB CW (-1) shutF) [] E (tCons (tVar 1) (tCons (tVar 4) (tCons (tLst tNil) tNil)))) (M2.extN (Same.extN s17)) ⟨lamS_fr (by decide +kernel), fun _ _ _ _ _ => rfl, fun A outer s H E f c' hr => pe_call f_shut_fraction.ok hr rfl f_shut_fraction.g f_shut_fraction.kp f_shut_fraction.b .nil (passes_call (takes_of rfl rfl rfl rfl) fun _ _ _ _ h => h) (pa_cons (pv 1) (pa_cons (pv 4) (pa_cons (pe_lst pa_nil) pa_nil)))⟩ rfl (fun E σ0 Qn hw hE => ?_) kC
        exact lam_b L2' L9 (by rw [wipe_at hw (by decide)]; rfl) (by rw [wipe_at hw (by decide)]; rfl) (PDR.extN (away (y10.trans (Same.extN s17)) v2) pdb) fewb nbb hE
      | 2, it =>
        obtain rfl : V.ref g3 = x := Option.some.inj it
        refine web_step xW XW (t := fun E => tCall (spFrac K CB CW 1 webF) [] E (tCons (tVar 1) (tCons (tLst tNil) (tCons (tVar 5) tNil)))) (M3.extN (Same.extN s17)) ⟨lamS_fr (by decide +kernel), fun _ _ _ _ _ => rfl, fun A outer s H E f c' hr => pe_call f_web_fraction.ok hr rfl f_web_fraction.g f_web_fraction.kp f_web_fraction.b .nil (passes_call (takes_of rfl rfl rfl rfl) fun _ _ _ _ h => h) (pa_cons (pv 1) (pa_cons (pe_lst pa_nil) (pa_cons (pv 5) pa_nil)))⟩ rfl (fun E σ0 Qn hw hE => ?_) kC
        exact lam_c L2' L9 (by rw [wipe_at hw (by decide)]; rfl) (by rw [wipe_at hw (by decide)]; rfl) (PDR.extN (away (y10.trans (Same.extN s17)) v3) pdw) feww nbw hE
      | 3, it =>
        obtain rfl : V.ref g4 = x := Option.some.inj it
        refine web_step xW XW (t := fun E => tCall (spFrac K CB CW (-1) shutF) [] E (tCons (tVar 1) (tCons (tLst tNil) (tCons (tVar 5) tNil)))) (M4.extN (Same.extN s17)) ⟨lamS_fr (by decide +kernel), fun _ _ _ _ _ => rfl, fun A outer s H E f c' hr => pe_call f_shut_fraction.ok hr rfl f_shut_fraction.g f_shut_fraction.kp f_shut_fraction.b .nil (passes_call (takes_of rfl rfl rfl rfl) fun _ _ _ _ h => h) (pa_cons (pv 1) (pa_cons (pe_lst pa_nil) (pa_cons (pv 5) pa_nil)))⟩ rfl (fun E σ0 Qn hw hE => ?_) kC
        exact lam_c L2' L9 (by rw [wipe_at hw (by decide)]; rfl) (by rw [wipe_at hw (by decide)]; rfl) (PDR.extN (away (y10.trans (Same.extN s17)) v4) pdw) feww nbw hE
    · exact ⟨D2, [true, true, true, true], rfl, SqL.of e17, q _⟩
end
end Kz
end
section
set_option Elab.async false
set_option linter.all false
set_option maxRecDepth 100000
set_option maxHeartbeats 4000000
/-! the mathematics, 12: how great the numbers are -/
namespace Kz
open PySem PySem.Spec PyProof.Rows L2 KzM
theorem pe_bound {e : Int} (he : e = 1 ∨ e = -1) {x : Ser} {M : Nat} (h : ∀ k, k ≤ 5 → (conv (Pe e) x k).natAbs ≤ M) : ∀ k, k ≤ 5 → (x k).natAbs ≤ (k + 1) * M
  | 0, _ => by
    have h0 := h 0 (by omega)
    have e0 : conv (Pe e) x 0 = x 0 := by show (1 : Int) * x 0 = x 0; rw [Int.one_mul]
    rw [e0] at h0
    omega
  | k + 1, hk => by
    have ih := pe_bound he h k (by omega)
    have h1 := h (k + 1) hk
    rw [conv_P] at h1
    rw [Nat.add_mul (k + 1) 1 M, Nat.one_mul]
    rcases he with e1 | e1 <;> rw [e1] at h1 <;> omega
theorem pw_bound {e : Int} (he : e = 1 ∨ e = -1) : ∀ (k0 : Nat) {x : Ser} {M : Nat}, (∀ k, k ≤ 5 → (conv (pw e k0) x k).natAbs ≤ M) → ∀ k, k ≤ 5 → (x k).natAbs ≤ 6 ^ k0 * M
  | 0, x, M, h, k, hk => by
    have := h k hk
    have e0 : conv (pw e 0) x k = x k := conv_one x k
    rw [e0] at this
    rw [Nat.pow_zero, Nat.one_mul]
    exact this
  | k0 + 1, x, M, h, k, hk => by
    have h1 : ∀ k, k ≤ 5 → (conv (pw e k0) x k).natAbs ≤ 6 * M := fun k hk => by
      have := pe_bound he (x := conv (pw e k0) x) (M := M) (fun j hj => by rw [← conv_assoc]; exact h j hj) k hk
      exact Nat.le_trans this (Nat.mul_le_mul_right M (by omega))
    have := pw_bound he k0 h1 k hk
    rw [Nat.pow_succ, Nat.mul_assoc]
    exact this
theorem kOf_le (e : Int) (x : Ser × Ser) : kOf e x ≤ 10 := by
  by_cases h : ∃ k, k ≤ 10 ∧ (CopP e k x.1 x.2 ∨ CopP e k x.2 x.1)
  · exact (kOf_is h).1
  · have : kOf e x = 0 := dif_neg h
    omega
theorem quot_bits {e : Int} (he : e = 1 ∨ e = -1) {k0 n : Nat} {l r : List Int} (hk : k0 ≤ 10) (hn : n ≤ 5) (c : ∀ k, co l k = conv (pw e k0) (co r) k) (b : ∀ k, (co l k).natAbs ≤ 512) (lr : r.length ≤ n + 1) : Bits 35 r := fun k => by
  by_cases h : k ≤ 5
  · have h1 := pw_bound he k0 (x := co r) (M := 512) (fun j _ => by rw [← c]; exact b j) k h
    have h2 : 6 ^ k0 ≤ 6 ^ 10 := Nat.pow_le_pow_right (by decide) hk
    have h3 : (6 : Nat) ^ 10 * 512 < 2 ^ 35 := by decide
    have h4 : 6 ^ k0 * 512 ≤ 6 ^ 10 * 512 := Nat.mul_le_mul_right _ h2
    omega
  · rw [co_out (by omega)]
    exact Nat.pow_pos (by decide)
theorem frac_ok {e : Int} (he : e = 1 ∨ e = -1) {k0 m n : Nat} (hk : k0 ≤ 10) (hn : n ≤ 5) {over below r1 r2 nums : List Int} (le : Least e k0 over below r1 r2) (l1 : over.length ≤ n + 1) (l2 : below.length ≤ n + 1) (b1 : ∀ k, (co over k).natAbs ≤ 512) (b2 : ∀ k, (co below k).natAbs ≤ 512)
    (un : ∀ k, k ≤ m → conv (co r2) (co nums) k = co r1 k) : FracOk m r1 r2 nums (n + 1) where
  l1 := Nat.le_trans le.l1 l1
  l2 := Nat.le_trans le.l2 l2
  t1 := le.t1
  t2 := le.t2
  z1 := le.z1
  z2 := le.z2
  b1 := quot_bits he hk hn le.c1 b1 (Nat.le_trans le.l1 l1)
  b2 := quot_bits he hk hn le.c2 b2 (Nat.le_trans le.l2 l2)
  cop := ⟨e, by rcases he with h | h <;> rw [h] <;> rfl, le.cop⟩
  un := un
theorem webF_small {n : Nat} {trs : List Trip} {ns : List Nat} (W : WebOk n trs ns) : (∀ k, ((webF n trs ns).1 k).natAbs ≤ 512) ∧ ∀ k, ((webF n trs ns).2 k).natAbs ≤ 512 := by
  have nl := ns_len W
  have n5 := W.n5
  have ll := lotsTo_len (pairsOfT trs) n
  have p5 : 2 ^ n ≤ 2 ^ 5 := Nat.pow_le_pow_right (by decide) n5
  refine ⟨fun k => Nat.le_trans (pw_small (.inl rfl) (by omega) k) (by decide), fun k => ?_⟩
  have := lotSum_small (s := -1) (e := 1) (.inr rfl) (.inl rfl) (jf := fun lot => ns.length - lostIn ns lot) (ls := lotsTo (pairsOfT trs) n) (fun lot _ => by show ns.length - _ ≤ 5; omega) k
  exact Nat.le_trans this (by omega)
theorem shutF_small {n : Nat} {trs : List Trip} {ns : List Nat} (W : WebOk n trs ns) : (∀ k, ((shutF n trs ns).1 k).natAbs ≤ 512) ∧ ∀ k, ((shutF n trs ns).2 k).natAbs ≤ 512 := by
  have n5 := W.n5
  have ll := lotsTo_len (pairsOfT trs) n
  have p5 : 2 ^ n ≤ 2 ^ 5 := Nat.pow_le_pow_right (by decide) n5
  refine ⟨fun k => ?_, fun k => Nat.le_trans (pw_small (.inr rfl) (by omega) k) (by decide)⟩
  have := lotSum_small (s := 1) (e := -1) (.inl rfl) (.inr rfl) (jf := fun lot => n - ns.length - keptIn ns lot) (ls := lotsTo (pairsOfT trs) n) (fun lot _ => by show n - ns.length - _ ≤ 5; omega) k
  exact Nat.le_trans this (by omega)
/-! ### the law's whole -/
theorem conv_bitsN {f g : Ser} {a b N : Nat} (hf : ∀ k, k < N → (f k).natAbs < 2 ^ a) (hg : ∀ k, k < N → (g k).natAbs < 2 ^ b) {k : Nat} (hk : k < N) : (conv f g k).natAbs ≤ (k + 1) * 2 ^ (a + b) := by
  have pa : 0 < 2 ^ a := Nat.pow_pos (by decide)
  have pb : 0 < 2 ^ b := Nat.pow_pos (by decide)
  have e : conv f g k = conv (fun k => if k < N then f k else 0) (fun k => if k < N then g k else 0) k := conv_upto2 (fun i hi => by rw [if_pos (by omega)]) fun i hi => by rw [if_pos (by omega)]
  rw [e]
  refine conv_bits (fun j => ?_) (fun j => ?_) k
  · by_cases h : j < N
    · rw [if_pos h]; exact hf j h
    · rw [if_neg h]; exact pa
  · by_cases h : j < N
    · rw [if_pos h]; exact hg j h
    · rw [if_neg h]; exact pb
theorem lotW_snoc (f g : Ser) (ns lot : List Nat) (x : Nat) : lotW f g ns (lot ++ [x]) = conv (lotW f g ns lot) (if x ∈ ns then g else f) := by
  unfold lotW
  rw [List.foldl_append]
  rfl
theorem lotW_bits {f g : Ser} {ns : List Nat} (hf : ∀ k, (f k).natAbs < 2 ^ 1) (hg : ∀ k, (g k).natAbs < 2 ^ 1) : ∀ (m : Nat) (lot : List Nat), lot.length = m → ∀ k, k < 20 → (lotW f g ns lot k).natAbs < 2 ^ (1 + 6 * m)
  | 0, lot, h, k, _ => by
    rw [List.eq_nil_of_length_eq_zero h]
    show (if k = 0 then (1 : Int) else 0).natAbs < 2
    split <;> decide
  | m + 1, lot, h, k, hk => by
    have na : lot ≠ [] := fun q => by rw [q] at h; cases h
    obtain ⟨l, x, rfl⟩ : ∃ l x, lot = l ++ [x] := ⟨_, _, (List.dropLast_concat_getLast na).symm⟩
    have ih := lotW_bits (ns := ns) hf hg m l (by simpa using h)
    rw [lotW_snoc]
    have h1 := conv_bitsN (g := if x ∈ ns then g else f) (N := 20) (b := 1) ih (fun j _ => by
      by_cases c : x ∈ ns
      · rw [if_pos c]; exact hg j
      · rw [if_neg c]; exact hf j) hk
    have h2 : (k + 1) * 2 ^ (1 + 6 * m + 1) ≤ 20 * 2 ^ (1 + 6 * m + 1) := Nat.mul_le_mul_right _ (by omega)
    have h3 : 1 + 6 * (m + 1) = (1 + 6 * m + 1) + 5 := by omega
    rw [h3, Nat.pow_add]
    have h4 : 0 < 2 ^ (1 + 6 * m + 1) := Nat.pow_pos (by decide)
    omega
theorem sum_small (F : List Nat → Int) (b : Nat) : ∀ {ls : List (List Nat)}, (∀ lot ∈ ls, (F lot).natAbs ≤ b) → ((ls.map F).sum).natAbs ≤ ls.length * b
  | [], _ => Nat.zero_le _
  | lot :: ls, h => by
    have ih := sum_small F b fun l hl => h l (List.mem_cons_of_mem _ hl)
    have h1 := h lot List.mem_cons_self
    rw [List.map_cons, List.sum_cons, List.length_cons, Nat.add_mul, Nat.one_mul]
    omega
theorem whole_bits {f g : Ser} {ns : List Nat} {ls : List (List Nat)} {l : List Int} (hf : ∀ k, (f k).natAbs < 2 ^ 1) (hg : ∀ k, (g k).natAbs < 2 ^ 1) (l32 : ls.length ≤ 32) (l5 : ∀ lot ∈ ls, lot.length ≤ 5) (l20 : l.length ≤ 20) (h : ∀ k, k < l.length → co l k = (ls.map fun lot => lotW f g ns lot k).sum) : Bits 60 l := fun k => by
  by_cases hk : k < l.length
  · rw [h k hk]
    have := sum_small (fun lot => lotW f g ns lot k) (2 ^ 31) (ls := ls) fun lot hl => by
      have h1 := lotW_bits (ns := ns) hf hg _ lot rfl k (by omega)
      have h2 : 2 ^ (1 + 6 * lot.length) ≤ 2 ^ 31 := Nat.pow_le_pow_right (by decide) (by have := l5 lot hl; omega)
      omega
    have h3 : ls.length * 2 ^ 31 ≤ 32 * 2 ^ 31 := Nat.mul_le_mul_right _ l32
    have h4 : (32 : Nat) * 2 ^ 31 < 2 ^ 60 := by decide
    omega
  · rw [co_out (by omega)]
    exact Nat.pow_pos (by decide)
/-! ### the four unrolled series -/
theorem minus_is {r : List Int} {m : Nat} (h : ∀ k, k ≤ m → conv (co [1]) (co r) k = co [0, -1] k) {k : Nat} (hk : k ≤ m) : co r k = if k = 1 then -1 else 0 := by
  have e : ∀ k, conv (co [1]) (co r) k = co r k := fun k => by
    rw [conv_congrL (co r) (g := one) fun j => by
      cases j with
      | zero => rfl
      | succ j => exact co_out (by show 1 ≤ j + 1; omega)]
    exact conv_one _ k
  rw [← e, h k hk]
  match k with
  | 0 => rfl
  | 1 => rfl
  | k + 2 => rw [if_neg (by omega)]; exact co_out (by show 2 ≤ k + 2; omega)
theorem plus_is {r : List Int} {m : Nat} (h : ∀ k, k ≤ m → conv (co [1]) (co r) k = co [0, 1] k) {k : Nat} (hk : k ≤ m) : co r k = if k = 1 then 1 else 0 := by
  have e : ∀ k, conv (co [1]) (co r) k = co r k := fun k => by
    rw [conv_congrL (co r) (g := one) fun j => by
      cases j with
      | zero => rfl
      | succ j => exact co_out (by show 1 ≤ j + 1; omega)]
    exact conv_one _ k
  rw [← e, h k hk]
  match k with
  | 0 => rfl
  | 1 => rfl
  | k + 2 => rw [if_neg (by omega)]; exact co_out (by show 2 ≤ k + 2; omega)
theorem two_pe (c : Int) : co [1, c] = Pe c := by
  funext k
  match k with
  | 0 => rfl
  | 1 => rfl
  | k + 2 => exact co_out (by show 2 ≤ k + 2; omega)
theorem signs_is {r : List Int} {m : Nat} (h : ∀ k, k ≤ m → conv (co [1, 1]) (co r) k = co [0, -1] k) : ∀ k, k ≤ m → co r k = if k = 0 then 0 else (-1) ^ k
  | 0, hk => by
    have := h 0 hk
    rw [two_pe] at this
    have e0 : conv (Pe 1) (co r) 0 = co r 0 := by show (1 : Int) * co r 0 = _; rw [Int.one_mul]
    rw [e0] at this
    exact this
  | k + 1, hk => by
    have ih := signs_is h k (by omega)
    have := h (k + 1) hk
    rw [two_pe, conv_P, Int.one_mul, ih] at this
    rw [if_neg (by omega)]
    match k, this with
    | 0, this =>
      have this : co r 1 + 0 = -1 := this
      show co r 1 = (-1) ^ 1
      omega
    | k + 1, this =>
      rw [if_neg (by omega), co_out (l := [0, -1]) (by show 2 ≤ k + 1 + 1; omega)] at this
      rw [Int.pow_succ]
      omega
theorem ones_is {r : List Int} {m : Nat} (h : ∀ k, k ≤ m → conv (co [1, -1]) (co r) k = co [0, 1] k) : ∀ k, k ≤ m → co r k = if k = 0 then 0 else 1
  | 0, hk => by
    have := h 0 hk
    rw [two_pe] at this
    have e0 : conv (Pe (-1)) (co r) 0 = co r 0 := by show (1 : Int) * co r 0 = _; rw [Int.one_mul]
    rw [e0] at this
    exact this
  | k + 1, hk => by
    have ih := ones_is h k (by omega)
    have := h (k + 1) hk
    rw [two_pe, conv_P, ih] at this
    rw [if_neg (by omega)]
    match k, this with
    | 0, this =>
      have this : co r 1 + -1 * 0 = 1 := this
      show co r 1 = 1
      omega
    | k + 1, this =>
      rw [if_neg (by omega), co_out (l := [0, 1]) (by show 2 ≤ k + 1 + 1; omega)] at this
      omega
theorem bits1 {r : List Int} (h : ∀ k, k < r.length → co r k = 0 ∨ co r k = 1 ∨ co r k = -1) : Bits 1 r := fun k => by
  by_cases hk : k < r.length
  · rcases h k hk with e | e | e <;> rw [e] <;> decide
  · rw [co_out (by omega)]
    decide
theorem sign_pow : ∀ k : Nat, ((-1 : Int) ^ k = 1) ∨ ((-1 : Int) ^ k = -1)
  | 0 => .inl rfl
  | k + 1 => by
    rcases sign_pow k with h | h <;> rw [Int.pow_succ, h]
    · exact .inr rfl
    · exact .inl rfl
end Kz
end
section
set_option Elab.async false
set_option linter.all false
set_option maxRecDepth 100000
set_option maxHeartbeats 4000000
/-! f(k = v, ..): keywords alone -/
namespace Kz
open PySem PySem.Spec PyProof.Rows L2
def tCallK0 (m : Nat) (sp : Sp) (gV : List V → List V → List V) (E : XK) (tk : TA) : TE := fun σ H Q => tk σ H fun zs H2 => zs.length = m ∧ sp (gV [] zs) H2 Q E
section
variable {X : Cx} {CX : CXT} {k : Nat} {f : Addr} {fd : FuncData} {ps ks : List Str} {sp : Sp} {E : XK} {x : Str} {p pos : Pos} {kws : List Keyword} {tk : TA} {g : List Value → List Value → List Value} {gV : List V → List V → List V}
theorem pe_callK0 (F : FnOk X.prog X.w X.K X.mg X.base CX k f fd ps sp) (hr : Room k X.A) (hg : Gl X x) (hm : X.mg x = some (.ref f)) (hk : PySem.W.keepIn X.K (.ref f) = true) (hb : KBn X.K fd ps 0 ks g gV) (hx : Passes CX X E) (hkw : PK X kws tk)
    (hall : (backToKw pos (keywordEach kws X.env)).all (·.1.isSome) = true := by rfl) (hks : (backToKw pos (keywordEach kws X.env)).filterMap (·.1) = ks := by rfl) (hdb : (x == ("__debug__" : Str)) = false := by decide)
    (hpl : ((backTo pos (starEach [] X.env)).any (·.1) || (backToKw pos (keywordEach kws X.env)).any (·.1.isNone)) = false := by rfl) :
    PE X (.Call (.Name x p) [] kws pos) (tCallK0 ks.length sp gV E tk) := by
  refine ⟨fun pins s σ H Q I h => ?_⟩
  refine wpAny_Call_Name_kw (ld_glob I hg hm ?_ hdb)
  refine PySem.W.callWith_KW0 (h₀ := X.base) I.ok.mod.kin hk hall ?_ hpl
  refine thn (hkw.run pos pins s σ H _ I h) fun ws s2 ⟨zs, H2, I2, rz, l2, q2⟩ => ⟨I2.kIn, ?_⟩
  rw [hks]
  exact run_fnN (us := []) (vs := []) F hr hb hx I2 .nil rz rfl l2 q2
end
abbrev rev3 {α : Type} (_ ws : List α) : List α := ws.reverse
theorem kbn3 {K : PySem.W.Frag} {x : Str} {st : Stmt} {mg : Str → Option Value} {ps : List Str} {ks : List Str} (D : DefAt K mg x st) (hl : ks.length = ps.length)
    (hb : ∀ (kV doc pm : Value) (an : Option Addr) (cdv ct : Value) (ws : List Value), ws.length = ks.length → bindArgs (PySem.W.fnOf x x (defArgs st) (defBody st) (defScope st) .none kV doc pm an cdv ct) ⟨[], ks.zip ws⟩ = pure (ps.zip ws.reverse)) :
    KBn K (fdOf K (He.ga K x)) ps 0 ks rev3 rev3 := by
  obtain ⟨fd, F⟩ := D.F
  have e : fdOf K (He.ga K x) = fd := by
    obtain ⟨oc, od, dV, kV, doc, pm, an, cdv, ct, osl, h1, h2, _⟩ := F.ex
    unfold fdOf
    rw [h2]
  rw [e]
  obtain ⟨oc, od, dV, kV, doc, pm, an, cdv, ct, osl, rfl, lk, hcd, hD, hK⟩ := F.ex
  rcases hD with ⟨_, rfl⟩ | ⟨e, _⟩
  · refine ⟨fun s us ws _ l1 l2 => ?_, fun {vs us zs ws} _ r => ?_⟩
    · rw [List.eq_nil_of_length_eq_zero l1]
      exact .of_eq (hb kV doc pm an cdv ct ws l2)
    · exact r.reverse
  · exact absurd rfl e
end Kz
end
section
set_option Elab.async false
set_option linter.all false
set_option maxRecDepth 100000
set_option maxHeartbeats 4000000
/-! the law -/
namespace Kz
open PySem PySem.Spec PyProof.Rows L2 LamX KzM
/-- the rules of all the defs that the law calls -/
structure Calls_ (w : World) (K : PySem.W.Frag) (mg : Str → Option Value) (base : Heap) (CB CW : Addr) : Prop where
  begun : FnS PG w K mg base CX0 1 "_law_begun" ["_law_script"] (spBegun K)
  field : FnS PG w K mg base CX0 4 "_law_field" ["_law_draw"] spField
  web_letters : FnS PG w K mg base CX0 5 "_law_web_letters" ["_law_draw", "_law_field_here"] (spWebLetters K)
  all_lots : FnS PG w K mg base CX0 2 "_law_all_lots" ["_law_letters", "_law_lines_here"] (spAllLots K)
  take : FnS PG w K mg base CX0 2 "_law_take" ["_law_draw", "_law_amount"] spTake
  given : FnS PG w K mg base CX0 3 "_law_given" ["_law_draw", "_law_some"] (spGiven K)
  web_fraction : FnS PG w K mg base (L2.CX PG w) 6 "web_fraction" ["letters", "lines", "nothings"] (spFrac K CB CW 1 webF)
  shut_fraction : FnS PG w K mg base (L2.CX PG w) 6 "shut_fraction" ["letters", "lines", "nothings"] (spFrac K CB CW (-1) shutF)
  unrolled : FnS PG w K mg base CX0 1 "_law_unrolled" ["_law_over_here", "_law_below_here", "_law_most"] (spUnrolled K)
  lots_sum : FnS PG w K mg base CX0 2 "_law_lots_sum" ["_law_lots_due", "_law_nothings_here", "_law_plain_one", "_law_nothing_one"] (spLotsSum K)
  is_fraction : FnS PG w K mg base CX0 3 "_law_is_fraction" ["_law_thing", "_law_numbers_here", "_law_most"] (spIsFraction K)
  books_count : FnS PG w K mg base CX0 8 "_law_books_count" ["_law_draw", "_law_field_here", "_law_letters", "_law_lines_here", "_law_nothings_here", "_law_numbers_here", "_law_is_shut"] (spBooksCount K)
  refused : FnS PG w K mg base CX0 9 "_law_fractions_refused" ["_law_draw", "_law_letters"] (spRefused K)
theorem seq_gen {t u : TS} {D : Ends} {σ : L2.St} {H : Hp} (h : ∀ nx : L2.St → Hp → Prop, (∀ σ' H', u D σ' H' → nx σ' H') → t { D with nx := nx } σ H) : tSeq t u D σ H := h _ fun _ _ x => x
theorem TupsAt.out {K : PySem.W.Frag} {H : Hp} {d la ca a : Addr} {ls : List (List Int)} (hd : Drw H d la ca) (n1 : a ≠ d) (n2 : a ≠ la) (h : TupsAt K H a ls) : TupsAt K (Out d la H) a ls := by
  obtain ⟨ks, h1, h2, h3⟩ := h
  refine ⟨ks, ?_, fun p hp => sqT_out hd (h2 p hp), h3⟩
  rcases h1 with (h | ⟨o, h⟩) | h
  · exact .inl (.inl (out_of h n1 n2))
  · exact .inl (.inr ⟨o, out_of h n1 n2⟩)
  · exact .inr h
/-- two equal fractions -/
theorem ne_frac {K : PySem.W.Frag} {H : Hp} {t u : Addr} {r1 r2 : List Int} {Q : VK} (h : FracAt K H t r1 r2) (g : FracAt K H u r1 r2) (q : Q (.bl false) H) : rNeD K (.ref t) (.ref u) H Q := by
  have dp : ∀ {t : Addr}, FracAt K H t r1 r2 → Dp K H (.ref t) (.tuple [.tuple (dInts r1), .tuple (dInts r2)]) := fun ⟨t0, t1, a, b, c⟩ => .tup a (.cons (dp_tupI b) (.cons (dp_tupI c) .nil))
  have sh : SeqAt.shaped (.tuple [.tuple (dInts r1), .tuple (dInts r2)]) = true := by
    show ((PyData.canLayAll0 (dInts r1) && (PyData.canLayAll0 (dInts r2) && true)) && decide (max (PyData.depthAll (dInts r1) + 1) (max (PyData.depthAll (dInts r2) + 1) 0) + 1 ≤ 64)) = true
    rw [lay_ints, lay_ints, depth_ints, depth_ints]
    rfl
  refine ⟨_, _, dp h, dp g, sh, sh, ?_⟩
  have e : PyData.eqv (.tuple [.tuple (dInts r1), .tuple (dInts r2)]) (.tuple [.tuple (dInts r1), .tuple (dInts r2)]) = true := by
    show (PyData.eqvAll (dInts r1) (dInts r1) && (PyData.eqvAll (dInts r2) (dInts r2) && true)) = true
    rw [eqv_ints, eqv_ints, decide_eq_true rfl, decide_eq_true rfl]
    rfl
  rw [e]
  exact q
theorem bits_a : Bits 60 [1] := fun k => match k with
  | 0 => by decide
  | k + 1 => by rw [co_out (by show 1 ≤ k + 1; omega)]; decide
theorem bits_b (c : Int) (h : c.natAbs < 2 ^ 60) : Bits 60 [1, c] := fun k => match k with
  | 0 => by show (1 : Nat) < _; decide
  | 1 => h
  | k + 2 => by rw [co_out (by show 2 ≤ k + 2; omega)]; decide
def spLaw (K : PySem.W.Frag) : Sp := fun vs H Q _ => ∃ (a : Addr) (ns : List Int), vs = [.ref a] ∧ SqL K H a (ns.map V.int) ∧ ns.length ≤ 63 ∧ H (He.cT K ("_law_fractions_refused", none)).2 = some (.tbl #[]) ∧ ∀ H', Q (.bl true) H'
section
variable {w : World} {K : PySem.W.Frag} {mg : Str → Option Value} {base : Heap}
abbrev N_law : List Str := ["_law_script", "_law_draw", "_law_field_here", "_law_letters", "_law_lines_here", "_law_nothings_here", "_law_lots_due", "_law_most", "_law_given_here", "_law_told", "_law_dark_told", "_law_minus_here", "_law_whole", "_law_numbers_here", "_law_one_here", "_law_dark_numbers", "_law_prime_here", "_law_line"]
theorem sc_law : FnScope N_law ["_law_script"] (defScope sd_law) := ⟨rfl, rfl, rfl, by decide +kernel, rfl, by decide +kernel, by decide +kernel⟩
theorem f_law {CB CW : Addr} (D : DefAt K mg "law" sd_law) (T : Txt K mg) (DW : DefAt K mg "web_fraction" sd_web_fraction) (DS : DefAt K mg "shut_fraction" sd_shut_fraction) (CC : Calls_ w K mg base CB CW) : FnS PG w K mg base CX0 10 "law" ["_law_script"] (spLaw K) := by
  have kbW := kbn3 (ps := ["letters", "lines", "nothings"]) (ks := ["nothings", "lines", "letters"]) DW rfl (fun _ _ _ _ _ _ ws hl => match ws, hl with | [_, _, _], _ => rfl)
  have kbS := kbn3 (ps := ["letters", "lines", "nothings"]) (ks := ["nothings", "lines", "letters"]) DS rfl (fun _ _ _ _ _ _ ws hl => match ws, hl with | [_, _, _], _ => rfl)
  obtain ⟨f_begun, f_field, f_web_letters, f_all_lots, f_take, f_given, f_web_fraction, f_shut_fraction, f_unrolled, f_lots_sum, f_is_fraction, f_books_count, f_fractions_refused⟩ := CC
  refine mkFn D sc_law (fun _ _ _ _ _ _ us hl => match us, hl with | [_], _ => rfl) (fun vs H Q E ⟨_, _, e, _⟩ => by rw [e]; rfl) fun cdv A outer s H vs Q E hr ⟨a, ns, e, ha, hn, hP, q⟩ => ?_
  subst e
  have big : 10000 < sizeLine := by decide
  refine ⟨_, (pss_cons (ps_set (i := 1) sc_law.nd rfl (.inr rfl) (pe_call f_begun.ok (hr.mono (by decide)) rfl f_begun.g f_begun.kp f_begun.b .nil pass0 (pa_cons (pv 0) pa_nil)))
      (pss_cons (ps_set (i := 2) sc_law.nd rfl (.inl rfl) (pe_call f_field.ok (hr.mono (by decide)) rfl f_field.g f_field.kp f_field.b .nil pass0 (pa_cons (pv 1) pa_nil)))
      (pss_cons (ps_asg (pe_call f_web_letters.ok (hr.mono (by decide)) rfl f_web_letters.g f_web_letters.kp f_web_letters.b .nil pass0 (pa_cons (pv 1) (pa_cons (pv 2) pa_nil))) (pg_tup rfl (pgs_cons (pg_name (i := 3) sc_law.nd rfl (.inl rfl)) (pgs_cons (pg_name (i := 4) sc_law.nd rfl (.inl rfl)) (pgs_cons (pg_name (i := 5) sc_law.nd rfl (.inl rfl)) pgs_nil)))))
      (pss_cons (ps_par (i := 6) (j := 7) rfl sc_law.nd rfl rfl (by decide) rfl rfl (pa_cons (pe_call f_all_lots.ok (hr.mono (by decide)) rfl f_all_lots.g f_all_lots.kp f_all_lots.b .nil pass0 (pa_cons (pv 3) (pa_cons (pv 4) pa_nil))) (pa_cons (pe_op op_add (pe_op op_mul pe_int (pv 3)) pe_int) pa_nil)) (by rfl))
      (pss_cons (ps_setLc (i := 4) (own := [("_law_line", 17)]) (g := (gName 17)) rfl sc_law.nd rfl rfl (sw_true rfl rfl rfl (by decide +kernel)) (pi_list (pv 4)) (blkOk_by (N := N_law) (sc := defScope sd_law) (by decide +kernel)) (fun _ _ _ _ _ => (pg_name (i := 17) sc_law.nd rfl (.inl rfl))) (fun _ _ _ _ _ => pts_nil) (fun _ _ _ _ _ => (pe_tup (pa_cons (pe_ix (ix_seqX : IxR _ (ixSeq K)) (pv 17) pe_int (fun _ _ => rfl)) (pa_cons (pe_ix (ix_seqX : IxR _ (ixSeq K)) (pv 17) pe_int (fun _ _ => rfl)) (pa_cons (pe_op op_mul (pe_ix (ix_seqX : IxR _ (ixSeq K)) (pv 17) pe_int (fun _ _ => rfl)) (pe_call f_take.ok (hr.mono (by decide)) rfl f_take.g f_take.kp f_take.b .nil pass0 (pa_cons (pv 1) (pa_cons pe_int pa_nil)))) pa_nil))))))
      (pss_cons (ps_set (i := 8) sc_law.nd rfl (.inl rfl) (pe_call f_given.ok (hr.mono (by decide)) rfl f_given.g f_given.kp f_given.b .nil pass0 (pa_cons (pv 1) (pa_cons (pv 4) pa_nil))))
      (pss_cons (ps_par (i := 9) (j := 10) rfl sc_law.nd rfl rfl (by decide) rfl rfl (pa_cons (pe_call f_web_fraction.ok (hr.mono (by decide)) rfl f_web_fraction.g f_web_fraction.kp f_web_fraction.b .nil passN (pa_cons (pv 3) (pa_cons (pv 8) (pa_cons (pv 5) pa_nil)))) (pa_cons (pe_call f_shut_fraction.ok (hr.mono (by decide)) rfl f_shut_fraction.g f_shut_fraction.kp f_shut_fraction.b .nil passN (pa_cons (pv 3) (pa_cons (pv 8) (pa_cons (pv 5) pa_nil)))) pa_nil)) (by rfl))
      (pss_cons (ps_if (pt_cmpR (op_neD hr.units) (pe_callK0 f_web_fraction.ok (hr.mono (by decide)) rfl f_web_fraction.g f_web_fraction.kp kbW passN (pk_cons (pe_callTy call_tuple_of (by rfl) T.tuple_ bo_tuple (pa_cons (pv 5) pa_nil)) (pk_cons (pv 8) (pk_cons (pv 3) pk_nil)))) (pv 9) (nomark _)) (pss_one (ps_ret pe_bl)) pss_nil)
      (pss_cons (ps_if (pt_cmpR (op_neD hr.units) (pe_callK0 f_shut_fraction.ok (hr.mono (by decide)) rfl f_shut_fraction.g f_shut_fraction.kp kbS passN (pk_cons (pe_callTy call_tuple_of (by rfl) T.tuple_ bo_tuple (pa_cons (pv 5) pa_nil)) (pk_cons (pv 8) (pk_cons (pv 3) pk_nil)))) (pv 10) (nomark _)) (pss_one (ps_ret pe_bl)) pss_nil)
      (pss_cons (ps_set (i := 11) sc_law.nd rfl (.inl rfl) (pe_call f_unrolled.ok (hr.mono (by decide)) rfl f_unrolled.g f_unrolled.kp f_unrolled.b .nil pass0 (pa_cons (pe_lst (pa_cons pe_int (pa_cons (pe_un un_neg pe_int) pa_nil))) (pa_cons (pe_lst (pa_cons pe_int pa_nil)) (pa_cons (pv 7) pa_nil)))))
      (pss_cons (ps_set (i := 12) sc_law.nd rfl (.inl rfl) (pe_call f_lots_sum.ok (hr.mono (by decide)) rfl f_lots_sum.g f_lots_sum.kp f_lots_sum.b .nil pass0 (pa_cons (pv 6) (pa_cons (pv 5) (pa_cons (pv 11) (pa_cons (pe_call f_unrolled.ok (hr.mono (by decide)) rfl f_unrolled.g f_unrolled.kp f_unrolled.b .nil pass0 (pa_cons (pe_lst (pa_cons pe_int (pa_cons (pe_un un_neg pe_int) pa_nil))) (pa_cons (pe_lst (pa_cons pe_int (pa_cons pe_int pa_nil))) (pa_cons (pv 7) pa_nil)))) pa_nil))))))
      (pss_cons (ps_set (i := 13) sc_law.nd rfl (.inl rfl) (pe_call f_unrolled.ok (hr.mono (by decide)) rfl f_unrolled.g f_unrolled.kp f_unrolled.b .nil pass0 (pa_cons (pe_lst (pa_cons pe_int pa_nil)) (pa_cons (pv 12) (pa_cons (pv 7) pa_nil)))))
      (pss_cons (ps_if (pt_not (pt_val (pe_call f_is_fraction.ok (hr.mono (by decide)) rfl f_is_fraction.g f_is_fraction.kp f_is_fraction.b .nil pass0 (pa_cons (pv 9) (pa_cons (pv 13) (pa_cons (pe_op op_add (pv 3) pe_int) pa_nil)))))) (pss_one (ps_ret pe_bl)) pss_nil)
      (pss_cons (ps_set (i := 14) sc_law.nd rfl (.inl rfl) (pe_call f_unrolled.ok (hr.mono (by decide)) rfl f_unrolled.g f_unrolled.kp f_unrolled.b .nil pass0 (pa_cons (pe_lst (pa_cons pe_int (pa_cons pe_int pa_nil))) (pa_cons (pe_lst (pa_cons pe_int pa_nil)) (pa_cons (pv 7) pa_nil)))))
      (pss_cons (ps_set (i := 15) sc_law.nd rfl (.inl rfl) (pe_call f_lots_sum.ok (hr.mono (by decide)) rfl f_lots_sum.g f_lots_sum.kp f_lots_sum.b .nil pass0 (pa_cons (pv 6) (pa_cons (pv 5) (pa_cons (pe_call f_unrolled.ok (hr.mono (by decide)) rfl f_unrolled.g f_unrolled.kp f_unrolled.b .nil pass0 (pa_cons (pe_lst (pa_cons pe_int (pa_cons pe_int pa_nil))) (pa_cons (pe_lst (pa_cons pe_int (pa_cons (pe_un un_neg pe_int) pa_nil))) (pa_cons (pv 7) pa_nil)))) (pa_cons (pv 14) pa_nil))))))
      (pss_cons (ps_if (pt_not (pt_val (pe_call f_is_fraction.ok (hr.mono (by decide)) rfl f_is_fraction.g f_is_fraction.kp f_is_fraction.b .nil pass0 (pa_cons (pv 10) (pa_cons (pv 15) (pa_cons (pe_op op_add (pv 3) pe_int) pa_nil)))))) (pss_one (ps_ret pe_bl)) pss_nil)
      (pss_cons (ps_for (passes_of rfl) rfl (pi_list (pe_lst (pa_cons (pv 2) (pa_cons (pe_call f_field.ok (hr.mono (by decide)) rfl f_field.g f_field.kp f_field.b .nil pass0 (pa_cons (pv 1) pa_nil)) pa_nil)))) (pg_name (i := 16) sc_law.nd rfl (.inl rfl)) (pss_cons (ps_if (pt_not (pt_val (pe_call f_books_count.ok (hr.mono (by decide)) rfl f_books_count.g f_books_count.kp f_books_count.b .nil pass0 (pa_cons (pv 1) (pa_cons (pv 16) (pa_cons (pv 3) (pa_cons (pv 4) (pa_cons (pv 5) (pa_cons (pv 13) (pa_cons pe_bl pa_nil)))))))))) (pss_one (ps_ret pe_bl)) pss_nil)
      (pss_one (ps_if (pt_not (pt_val (pe_call f_books_count.ok (hr.mono (by decide)) rfl f_books_count.g f_books_count.kp f_books_count.b .nil pass0 (pa_cons (pv 1) (pa_cons (pv 16) (pa_cons (pv 3) (pa_cons (pv 4) (pa_cons (pv 5) (pa_cons (pv 15) (pa_cons pe_bl pa_nil)))))))))) (pss_one (ps_ret pe_bl)) pss_nil))))
      (pss_one (ps_ret (pe_call f_fractions_refused.ok (hr.mono (by decide)) rfl f_fractions_refused.g f_fractions_refused.kp f_fractions_refused.b .nil pass0 (pa_cons (pv 1) (pa_cons (pe_op op_add pe_int (pe_call f_take.ok (hr.mono (by decide)) rfl f_take.g f_take.kp f_take.b .nil pass0 (pa_cons (pv 1) (pa_cons pe_int pa_nil)))) pa_nil)))))))))))))))))))))), ?_⟩
  obtain ⟨P, eP⟩ : ∃ P, (He.cT K ("_law_fractions_refused", none)).2 = P := ⟨_, rfl⟩
  rw [eP] at hP
  refine seq_gen fun nx hnx => (asg1 ⟨_, rfl, a, ns, rfl, ha, hn, fun H1 d la ca s1 _ _ dw1 => ?_⟩)
  have hP1 := s1 _ _ hP
  have nP : P ≠ d ∧ P ≠ la := by
    obtain ⟨r, t, lg, cs, h1, h2, _⟩ := id dw1
    exact ⟨ne_of hP1 h1 (by intro z; cases z), ne_of hP1 h2 (by intro z; cases z)⟩
  refine hnx [some (.ref a), some (.ref d), none, none, none, none, none, none, none, none, none, none, none, none, none, none, none, none] _ ?_
  clear hnx nx
  refine seq_gen fun nx hnx => (asg1 ⟨_, rfl, d, la, ca, rfl, dw1, fun H2 p d2 hp => ?_⟩)
  refine hnx [some (.ref a), some (.ref d), some (.int p), none, none, none, none, none, none, none, none, none, none, none, none, none, none, none] _ ?_
  clear hnx nx
  refine seq_gen fun nx hnx => (asg1 ⟨_, rfl, _, rfl, d, la, ca, p, rfl, d2.2, hp, fun H3 t n ai o trs no d3 ht hlines hns W => ⟨t, _, rfl, out_in.seqT ht, rfl, _, _, rfl, _, _, rfl, _, _, rfl, rfl, ?_⟩⟩)
  have n1 := W.n1
  have n5 := W.n5
  have few := W.few
  have d13 := d2.trans d3
  refine hnx [some (.ref a), some (.ref d), some (.int p), some (.int (n : Nat)), some (.ref ai), some (.ref o), none, none, none, none, none, none, none, none, none, none, none, none] _ ?_
  clear hnx nx
  refine seq_gen fun nx hnx => ⟨_, rfl, _, rfl, n, ai, trs, no, rfl, hlines.mono out_in, W, fun H4 dl ls s4 hdl hlots pl => ⟨_, rfl, _, _, rfl, rfl, .inl ⟨by decide, by decide⟩, _, _, rfl, rfl, _, _, rfl, ?_⟩⟩
  have dw4 := d3.2.mono s4
  have ndl := d3.2.new hdl
  have hlots4 := TupsAt.out dw4 ndl.1 ndl.2.1 hlots
  obtain ⟨ts, ha4, pr4⟩ := hlines.mono (Same.out s4)
  have lt := paired_len pr4
  refine hnx [some (.ref a), some (.ref d), some (.int p), some (.int (n : Nat)), some (.ref ai), some (.ref o), some (.ref dl), some (.int ((2 * n + 4 : Nat) : Int)), none, none, none, none, none, none, none, none, none, none] _ ?_
  clear hnx nx
  refine seq_gen fun nx hnx => ⟨_, rfl, ai, rfl, ⟨_, out_in.seq ha4⟩, lc_walkA (wk_list (K := K) (xs := ts.map V.ref)) dw4 (fun D i y H => ∀ x, trs[i]? = some x → ∃ (t : Addr) (z : Int), y = V.ref t ∧ t ≠ D ∧ t ≠ d ∧ t ≠ la ∧ H t = some (.tup [.int (x.1 : Nat), .int (x.2.1 : Nat), .int z]) ∧ True)
    (fun D i y H1 H2 f h x hx => by
      obtain ⟨t, z, e, n1, n2, n3, g, o⟩ := h x hx
      exact ⟨t, z, e, n1, n2, n3, f _ _ n1 n2 n3 g, o⟩) (by rw [List.length_map]; omega) (fun H' dr => out_in.seq (dr.1.seq ha4)) (fun DD i x H5 C hi it d5 hDD nd1 nd2 ac kC => ?_) fun DD H5 ys d5 hDD nd1 nd2 e5 r5 => ?_⟩
  · obtain ⟨t, z, rfl, e1, e2, lx⟩ := paired_getD pr4 it
    obtain ⟨acc, hacc⟩ := ac
    have lx5 : SqX K H5 t _ := out_in.seqX (d5.1.seqX lx)
    refine ⟨rfl, _, rfl, t, _, (0 : Nat), _, rfl, rfl, lx5, atI_nat (j := 0) rfl, _, rfl, t, _, (1 : Nat), _, rfl, rfl, lx5, atI_nat (j := 1) rfl, _, rfl, t, _, (2 : Nat), _, rfl, rfl, lx5, atI_nat (j := 2) rfl, _, rfl, d, la, ca, 2, rfl, d5.2, by decide, by decide, fun H6 v d6 hv => ⟨_, _, rfl, rfl, .inr ⟨by omega, by omega⟩, (by show 3 ≤ sizeLine; decide), fun u hu => ?_⟩⟩
    have nu := d6.2.new hu
    have nuD : u ≠ DD := ne_of_none' (d6.keep hacc nd1 nd2) hu
    refine kC _ _ (d6.same (Same.new hu)) fun x hx => ?_
    rw [e2] at hx
    cases hx
    exact ⟨u, _, rfl, nuD, nu.1, nu.2.1, upd_same, trivial⟩
  have r6 : Paired (fun x y => ∃ (t : Addr) (z : Int), y = V.ref t ∧ (t ≠ DD ∧ t ≠ d ∧ t ≠ la) ∧ H5 t = some (.tup [.int (x.1 : Nat), .int (x.2.1 : Nat), .int z])) trs ys := by
    have lr : ys.length = trs.length := by rw [← paired_len r5, List.length_range, List.length_map, lt]
    refine paired_mk lr.symm fun i x y hx hy => ?_
    obtain ⟨j, hj, f⟩ := paired_at r5 hy
    have il : i < (ts.map V.ref).length := by
      have := (List.getElem?_eq_some_iff.mp hx).1
      rw [List.length_map]
      omega
    rw [List.getElem?_range il] at hj
    cases hj
    obtain ⟨t, z, e, n1, n2, n3, g, o⟩ := f x hx
    exact ⟨t, z, e, ⟨n1, n2, n3⟩, g⟩
  have r7 : Paired (fun x y => ∃ (t : Addr) (z : Int), y = V.ref t ∧ t ≠ DD ∧ Out d la H5 t = some (.tup [.int (x.1 : Nat), .int (x.2.1 : Nat), .int z]) ∧ True) trs ys := paired_imp r6 fun x y ⟨t, z, e, ⟨n1, n2, n3⟩, g⟩ => ⟨t, z, e, n1, out_of g n2 n3, trivial⟩
  obtain ⟨us, vt, rfl, pv', ep, _⟩ := new_lines (K := K) (ok := fun _ => True) r7
  have W' := W.reweigh ep
  have pl' : ls.Perm (lotsTo (pairsOfT vt) n) := by rw [ep]; exact pl
  have hl5 : LinesL K (Out d la H5) DD vt := ⟨us, SqL.of (out_of e5 nd1 nd2), paired_imp pv' fun _ _ z => .inr z⟩
  refine hnx [some (.ref a), some (.ref d), some (.int p), some (.int (n : Nat)), some (.ref DD), some (.ref o), some (.ref dl), some (.int ((2 * n + 4 : Nat) : Int)), none, none, none, none, none, none, none, none, none, none] _ ?_
  clear hnx nx
  refine seq_gen fun nx hnx => (asg1 ⟨_, rfl, _, rfl, d, la, ca, DD, us.map V.ref, rfl, d5.2, SqL.of (out_of e5 nd1 nd2), fun H6 g d6 hg => ?_⟩)
  have d36 : Drn d la ca H3 H6 := ((Drn.of d3.2 s4).trans d5).trans d6
  have d16 := d13.trans d36
  have hl6 := hl5.mono d6.1
  have ho6 : SqL K (Out d la H6) o (natV no) := d36.1.seq hns
  have hlots6 := TupsAt.mono ((d5.trans d6).1) hlots4
  have hP6 : H6 P = some (.tbl #[]) := d16.keep hP1 nP.1 nP.2
  have hx6 : LinesX K H6 g vt := ⟨us, out_in.seqX hg, by
    obtain ⟨us2, q1, q2⟩ := hl6
    exact paired_imp (paired_imp pv' fun _ _ z => (.inr z : SqX K (Out d la H5) _ _)) fun _ _ z => out_in.seqX (d6.1.seqX z)⟩
  have dw6 := d6.2
  clear r5 r6 r7 e5 hDD
  refine hnx [some (.ref a), some (.ref d), some (.int p), some (.int (n : Nat)), some (.ref DD), some (.ref o), some (.ref dl), some (.int ((2 * n + 4 : Nat) : Int)), some (.ref g), none, none, none, none, none, none, none, none, none] _ ?_
  clear hnx nx
  -- the fractions
  refine seq_gen fun nx hnx => ⟨_, rfl, _, rfl, _, rfl, .inl ⟨n, g, o, vt, no, rfl, hx6, .inl (out_in.seq ho6), W', fun H7 t1 ov1 be1 r1 r2 s7 fa7 le7 a1 a2 a3 a4 => ⟨_, rfl, _, rfl, _, rfl, .inl ⟨n, g, o, vt, no, rfl, hx6.mono s7, .inl (s7.seq (out_in.seq ho6)), W', fun H8 t2 ov2 be2 q1 q2 s8 fa8 le8 b1 b2 b3 b4 => ⟨_, _, rfl, ?_⟩⟩⟩⟩⟩
  have s68 := s7.trans s8
  have ho8 := s68.seq (out_in.seq ho6)
  refine hnx [some (.ref a), some (.ref d), some (.int p), some (.int (n : Nat)), some (.ref DD), some (.ref o), some (.ref dl), some (.int ((2 * n + 4 : Nat) : Int)), some (.ref g), some (.ref t1), some (.ref t2), none, none, none, none, none, none, none] _ ?_
  clear hnx nx
  refine seq_gen fun nx hnx => (if1 ⟨_, rfl, o, _, rfl, .inl ⟨ho8, fun tn htn => ⟨_, rfl, _, rfl, rfl, .inl ⟨n, g, tn, vt, no, rfl, hx6.mono (s68.trans (Same.new htn)), .inr (SqT.of upd_same), W', fun H9 t9 ov9 be9 u1 u2 s9 fa9 le9 c1 c2 c3 c4 => ⟨_, rfl, ?_⟩⟩⟩⟩⟩)
  have s89 := (Same.new (o := .tup (natV no)) htn).trans s9
  obtain ⟨eu1, eu2⟩ := le9.same le7 (fun k => by rw [c3, a3]) (fun k => by rw [c4, a4])
  rw [eu1, eu2] at fa9
  refine ne_frac fa9 ((fa7.mono s8).mono s89) ⟨_, rfl, iteF' rfl ?_⟩
  have s69 := s68.trans s89
  have ho9 := s69.seq (out_in.seq ho6)
  refine hnx [some (.ref a), some (.ref d), some (.int p), some (.int (n : Nat)), some (.ref DD), some (.ref o), some (.ref dl), some (.int ((2 * n + 4 : Nat) : Int)), some (.ref g), some (.ref t1), some (.ref t2), none, none, none, none, none, none, none] _ ?_
  clear hnx nx
  refine seq_gen fun nx hnx => (if1 ⟨_, rfl, o, _, rfl, .inl ⟨ho9, fun tm htm => ⟨_, rfl, _, rfl, rfl, .inl ⟨n, g, tm, vt, no, rfl, hx6.mono (s69.trans (Same.new htm)), .inr (SqT.of upd_same), W', fun H10 t10 ov10 be10 v1 v2 s10 fa10 le10 g1 g2 g3 g4 => ⟨_, rfl, ?_⟩⟩⟩⟩⟩)
  have s910 := (Same.new (o := .tup (natV no)) htm).trans s10
  obtain ⟨ev1, ev2⟩ := le10.same le8 (fun k => by rw [g3, b3]) (fun k => by rw [g4, b4])
  rw [ev1, ev2] at fa10
  refine ne_frac fa10 (fa8.mono (s89.trans s910)) ⟨_, rfl, iteF' rfl ?_⟩
  have s610 := s69.trans s910
  have fr1 : FracAt K H10 t1 r1 r2 := fa7.mono (s8.trans (s89.trans s910))
  have fr2 : FracAt K H10 t2 q1 q2 := fa8.mono (s89.trans s910)
  clear fa7 fa8 fa9 fa10
  refine hnx [some (.ref a), some (.ref d), some (.int p), some (.int (n : Nat)), some (.ref DD), some (.ref o), some (.ref dl), some (.int ((2 * n + 4 : Nat) : Int)), some (.ref g), some (.ref t1), some (.ref t2), none, none, none, none, none, none, none] _ ?_
  clear hnx nx
  have dw10 := dw6.mono s610
  have ho10 := s610.seq (out_in.seq ho6)
  have lots10 : LotsAt K H10 dl ls := TupsAt.mono (out_in.trans s610) hlots6
  clear s7 s8 s9 s10 s68 s69 s89 s910 ho8 ho9
  have m20 : 2 * n + 4 ≤ 20 := by omega
  have l32 : ls.length ≤ 32 := by
    rw [pl'.length_eq]
    exact Nat.le_trans (lotsTo_len _ n) (Nat.pow_le_pow_right (n := 2) (by decide) n5)
  have l5 : ∀ lot ∈ ls, lot.length ≤ 5 := fun lot hl => Nat.le_trans (lotsTo_at _ n lot (pl'.mem_iff.mp hl)).1 n5
  -- -t
  refine seq_gen fun nx hnx => (asg1 ⟨1, rfl, (by show 2 ≤ sizeLine; decide), fun la1 hla1 => ⟨(by show 1 ≤ sizeLine; decide), fun lb1 hlb1 => ⟨_, rfl, la1, lb1, [0, -1], [1], 2 * n + 4, rfl, .inl (SqL.of (Same.new hlb1 _ _ upd_same)), .inl (SqL.of upd_same), rfl, bits_a, by show 1 < 10000; decide, by omega, fun H11 dm rm s11 hdm em lm cm => ?_⟩⟩⟩)
  have s11 := ((Same.new (o := .lst [.int 0, .int (-1)]) hla1).trans (Same.new (o := .lst [.int 1]) hlb1)).trans s11
  have cm' : ∀ k, k ≤ 2 * n + 4 → co rm k = if k = 1 then -1 else 0 := fun k hk => minus_is cm hk
  have bm : Bits 1 rm := bits1 fun k hk => by
    rw [cm' k (by omega)]
    by_cases e : k = 1
    · rw [if_pos e]; exact .inr (.inr rfl)
    · rw [if_neg e]; exact .inl rfl
  refine hnx [some (.ref a), some (.ref d), some (.int p), some (.int (n : Nat)), some (.ref DD), some (.ref o), some (.ref dl), some (.int ((2 * n + 4 : Nat) : Int)), some (.ref g), some (.ref t1), some (.ref t2), some (.ref dm), none, none, none, none, none, none] _ ?_
  clear hnx nx
  -- -t / (1 + t), and the whole
  refine seq_gen fun nx hnx => (asg1 ⟨_, rfl, _, rfl, _, rfl, 1, rfl, (by show 2 ≤ sizeLine; decide), fun la2 hla2 => ⟨(by show 2 ≤ sizeLine; decide), fun lb2 hlb2 => ⟨_, rfl, la2, lb2, [0, -1], [1, 1], 2 * n + 4, rfl, .inl (SqL.of (Same.new hlb2 _ _ upd_same)), .inl (SqL.of upd_same), rfl, bits_b 1 (by decide), by show 2 < 10000; decide, by omega, fun H12 ds rs s12 hds es lrs cs => ?_⟩⟩⟩)
  have s12 := ((Same.new (o := .lst [.int 0, .int (-1)]) hla2).trans (Same.new (o := .lst [.int 1, .int 1]) hlb2)).trans s12
  have cs' : ∀ k, k ≤ 2 * n + 4 → co rs k = if k = 0 then 0 else (-1) ^ k := signs_is cs
  have bs : Bits 1 rs := bits1 fun k hk => by
    rw [cs' k (by omega)]
    by_cases e : k = 0
    · rw [if_pos e]; exact .inl rfl
    · rw [if_neg e]; exact .inr (sign_pow k)
  have em12 := s12 _ _ em
  refine ⟨dl, o, dm, ds, ls, no, rm, rs, rfl, TupsAt.mono (s11.trans s12) lots10, (s11.trans s12).seq ho10, SqL.of em12, SqL.of es, by omega, by omega, by omega, bm, bs, l32, l5, fun H13 dwh rw_ s13 hdwh ewh lwh cwh => ?_⟩
  have cW : ∀ k, k ≤ 2 * n + 4 → co rw_ k = WP (jnB vt) (gW (inB no)) yes n k := fun k hk => by
    rw [cwh k (by omega)]
    refine sum_is W' (fun x j hj => ?_) pl' hk
    unfold gW
    by_cases hx : x ∈ no
    · rw [if_pos hx, show inB no x = true from decide_eq_true hx, if_pos rfl]
      exact cs' j hj
    · rw [if_neg hx, show inB no x = false from decide_eq_false hx, if_neg (by decide)]
      exact cm' j hj
  have bW : Bits 60 rw_ := whole_bits (fun k => bm k) (fun k => bs k) l32 l5 (by omega) fun k hk => cwh k (by omega)
  have w0 : co rw_ 0 = 1 := by rw [cW 0 (by omega)]; exact WP_zero (fun x => (gW_at x).1) n yes
  refine hnx [some (.ref a), some (.ref d), some (.int p), some (.int (n : Nat)), some (.ref DD), some (.ref o), some (.ref dl), some (.int ((2 * n + 4 : Nat) : Int)), some (.ref g), some (.ref t1), some (.ref t2), some (.ref dm), some (.ref dwh), none, none, none, none, none] _ ?_
  clear hnx nx
  -- the numbers
  refine seq_gen fun nx hnx => (asg1 ⟨(by show 1 ≤ sizeLine; decide), fun lc1 hlc1 => ⟨_, rfl, _, rfl, lc1, dwh, [1], rw_, 2 * n + 4, rfl, .inl (SqL.of upd_same), .inl (SqL.of (Same.new hlc1 _ _ ewh)), w0, bW, by omega, by omega, fun H14 dn rn s14 hdn en ln cn => ?_⟩⟩)
  have s14 := (Same.new (o := .lst [.int 1]) hlc1).trans s14
  have cN : ∀ k, k ≤ 2 * n + 4 → conv (co rw_) (co rn) k = one k := fun k hk => by
    rw [cn k hk]
    cases k with
    | zero => rfl
    | succ k => exact co_out (by show 1 ≤ k + 1; omega)
  have sA := (s11.trans s12).trans (s13.trans s14)
  have small := webF_small W'
  have smallS := shutF_small W'
  refine hnx [some (.ref a), some (.ref d), some (.int p), some (.int (n : Nat)), some (.ref DD), some (.ref o), some (.ref dl), some (.int ((2 * n + 4 : Nat) : Int)), some (.ref g), some (.ref t1), some (.ref t2), some (.ref dm), some (.ref dwh), some (.ref dn), none, none, none, none] _ ?_
  clear hnx nx
  refine seq_gen fun nx hnx => (if1 ⟨_, rfl, _, rfl, _, rfl, _, _, rfl, rfl, t1, dn, r1, r2, rn, n + 1, 2 * n + 4, rfl, fr1.mono sA, SqL.of en, ln, m20, by omega, frac_ok (.inl rfl) (kOf_le _ _) n5 le7 a1 a2 (fun k => by rw [a3]; exact small.1 k) (fun k => by rw [a4]; exact small.2 k) (told_web W' le7 a3 a4 (fun k hk => cW k hk) cN), fun H15 s15 => ⟨_, rfl, iteF' rfl ?_⟩⟩)
  refine hnx [some (.ref a), some (.ref d), some (.int p), some (.int (n : Nat)), some (.ref DD), some (.ref o), some (.ref dl), some (.int ((2 * n + 4 : Nat) : Int)), some (.ref g), some (.ref t1), some (.ref t2), some (.ref dm), some (.ref dwh), some (.ref dn), none, none, none, none] _ ?_
  clear hnx nx
  -- t
  refine seq_gen fun nx hnx => (asg1 ⟨(by show 2 ≤ sizeLine; decide), fun la3 hla3 => ⟨(by show 1 ≤ sizeLine; decide), fun lb3 hlb3 => ⟨_, rfl, la3, lb3, [0, 1], [1], 2 * n + 4, rfl, .inl (SqL.of (Same.new hlb3 _ _ upd_same)), .inl (SqL.of upd_same), rfl, bits_a, by show 1 < 10000; decide, by omega, fun H16 d1 ro s16 hd1 eo lo co_ => ?_⟩⟩⟩)
  have s16 := ((Same.new (o := .lst [.int 0, .int 1]) hla3).trans (Same.new (o := .lst [.int 1]) hlb3)).trans s16
  have co' : ∀ k, k ≤ 2 * n + 4 → co ro k = if k = 1 then 1 else 0 := fun k hk => plus_is co_ hk
  have bo : Bits 1 ro := bits1 fun k hk => by
    rw [co' k (by omega)]
    by_cases e : k = 1
    · rw [if_pos e]; exact .inr (.inl rfl)
    · rw [if_neg e]; exact .inl rfl
  refine hnx [some (.ref a), some (.ref d), some (.int p), some (.int (n : Nat)), some (.ref DD), some (.ref o), some (.ref dl), some (.int ((2 * n + 4 : Nat) : Int)), some (.ref g), some (.ref t1), some (.ref t2), some (.ref dm), some (.ref dwh), some (.ref dn), some (.ref d1), none, none, none] _ ?_
  clear hnx nx
  refine seq_gen fun nx hnx => (asg1 ⟨_, rfl, _, rfl, (by show 2 ≤ sizeLine; decide), fun la4 hla4 => ⟨1, rfl, (by show 2 ≤ sizeLine; decide), fun lb4 hlb4 => ⟨_, rfl, la4, lb4, [0, 1], [1, -1], 2 * n + 4, rfl, .inl (SqL.of (Same.new hlb4 _ _ upd_same)), .inl (SqL.of upd_same), rfl, bits_b (-1) (by decide), by show 2 < 10000; decide, by omega, fun H17 dg rg s17 hdg eg lg cg => ?_⟩⟩⟩)
  have s17 := ((Same.new (o := .lst [.int 0, .int 1]) hla4).trans (Same.new (o := .lst [.int 1, .int (-1)]) hlb4)).trans s17
  have cg' : ∀ k, k ≤ 2 * n + 4 → co rg k = if k = 0 then 0 else 1 := ones_is cg
  have bg : Bits 1 rg := bits1 fun k hk => by
    rw [cg' k (by omega)]
    by_cases e : k = 0
    · rw [if_pos e]; exact .inl rfl
    · rw [if_neg e]; exact .inr (.inl rfl)
  have sB := sA.trans (s15.trans (s16.trans s17))
  refine ⟨_, rfl, dl, o, dg, d1, ls, no, rg, ro, rfl, TupsAt.mono sB lots10, sB.seq ho10, SqL.of eg, SqL.of (s17 _ _ eo), by omega, by omega, by omega, bg, bo, l32, l5, fun H18 dk rk s18 hdk ek lk ck => ?_⟩
  have cK : ∀ k, k ≤ 2 * n + 4 → co rk k = WP (jnB vt) (gS (inB no)) yes n k := fun k hk => by
    rw [ck k (by omega)]
    refine sum_is W' (fun x j hj => ?_) pl' hk
    unfold gS
    by_cases hx : x ∈ no
    · rw [if_pos hx, show inB no x = true from decide_eq_true hx, if_pos rfl]
      exact co' j hj
    · rw [if_neg hx, show inB no x = false from decide_eq_false hx, if_neg (by decide)]
      exact cg' j hj
  have sC := sB.trans s18
  refine hnx [some (.ref a), some (.ref d), some (.int p), some (.int (n : Nat)), some (.ref DD), some (.ref o), some (.ref dl), some (.int ((2 * n + 4 : Nat) : Int)), some (.ref g), some (.ref t1), some (.ref t2), some (.ref dm), some (.ref dwh), some (.ref dn), some (.ref d1), some (.ref dk), none, none] _ ?_
  clear hnx nx
  refine seq_gen fun nx hnx => (if1 ⟨_, rfl, _, rfl, _, rfl, _, _, rfl, rfl, t2, dk, q1, q2, rk, n + 1, 2 * n + 4, rfl, fr2.mono sC, SqL.of ek, by omega, m20, by omega, frac_ok (.inr rfl) (kOf_le _ _) n5 le8 b1 b2 (fun k => by rw [b3]; exact smallS.1 k) (fun k => by rw [b4]; exact smallS.2 k) (told_shut W' le8 b3 b4 cK), fun H19 s19 => ⟨_, rfl, iteF' rfl ?_⟩⟩)
  refine hnx [some (.ref a), some (.ref d), some (.int p), some (.int (n : Nat)), some (.ref DD), some (.ref o), some (.ref dl), some (.int ((2 * n + 4 : Nat) : Int)), some (.ref g), some (.ref t1), some (.ref t2), some (.ref dm), some (.ref dwh), some (.ref dn), some (.ref d1), some (.ref dk), none, none] _ ?_
  clear hnx nx
  have sD := sC.trans s19
  have en19 : H19 dn = some (.lst (rn.map V.int)) := s19 _ _ (s18 _ _ (s17 _ _ (s16 _ _ (s15 _ _ en))))
  have ek19 : H19 dk = some (.lst (rk.map V.int)) := s19 _ _ ek
  have dw19 := dw10.mono sD
  have oD := Same.out (d := d) (la := la) (s610.trans sD)
  have hlD := hl6.mono oD
  have hoD : SqL K (Out d la H19) o (natV no) := oD.seq ho6
  have fresh : ∀ {b : Addr} {Hx Hy : Hp}, Same H10 Hx → Hx b = none → b ≠ d ∧ b ≠ la := fun {b Hx Hy} sx hx => by
    have := (dw10.mono sx).new hx
    exact ⟨this.1, this.2.1⟩
  have fn := fresh (Hy := H10) ((s11.trans s12).trans (s13.trans (Same.new (o := .lst [.int 1]) hlc1))) hdn
  have fk := fresh (Hy := H10) sB hdk
  have nD : SqL K (Out d la H19) dn (rn.map V.int) := SqL.of (out_of en19 fn.1 fn.2)
  have kD : SqL K (Out d la H19) dk (rk.map V.int) := SqL.of (out_of ek19 fk.1 fk.2)
  have okN : NumsOk false n vt no rn := ⟨by omega, fun k hk => by
    rw [← cN k hk]
    exact conv_upto2 (fun i hi => (cW i (by omega)).symm) fun _ _ => rfl⟩
  have okK : NumsOk true n vt no rk := ⟨by omega, cK⟩
  have hP19 : H19 P = some (.tbl #[]) := (s610.trans sD) _ _ hP6
  refine seq_gen fun nx hnx => ⟨_, rfl, _, rfl, d, la, ca, rfl, dw19, fun H20 p2 d20 hp2 => ⟨(by show 2 ≤ sizeLine; decide), fun ll hll => ⟨ll, rfl, ⟨_, SqL.of upd_same⟩, ?_⟩⟩⟩
  have nll := d20.2.new hll
  have d21 : Drn d la ca H19 (upd H20 ll (.lst [.int p, .int p2])) := d20.same (Same.new hll)
  have ell : (upd H20 ll (.lst [.int p, .int p2])) ll = some (.lst [.int p, .int p2]) := upd_same
  generalize upd H20 ll (.lst [.int p, .int p2]) = H21 at d21 ell ⊢
  refine for_walk (wk_list (K := K) (xs := [V.int p, V.int p2])) (fun i σ H' => ∃ x16 x17 : Option V, σ = [some (.ref a), some (.ref d), some (.int p), some (.int (n : Nat)), some (.ref DD), some (.ref o), some (.ref dl), some (.int ((2 * n + 4 : Nat) : Int)), some (.ref g), some (.ref t1), some (.ref t2), some (.ref dm), some (.ref dwh), some (.ref dn), some (.ref d1), some (.ref dk), x16, x17] ∧ Drn d la ca H21 H') ⟨_, _, rfl, .refl d21.2⟩ (fun _ _ _ _ ⟨_, _, _, dr⟩ => SqL.of (dr.keep ell nll.1 nll.2.1)) (fun i x σ H22 H23 hi ⟨x16, x17, eσ, dr⟩ s23 it => ?_) fun σ H22 ⟨x16, x17, eσ, dr⟩ => ?_
  · subst eσ
    obtain ⟨pi, rfl, hpi⟩ : ∃ pi : Int, x = .int pi ∧ pi ∈ fieldsL := by
      have it : ([V.int p, V.int p2])[i]? = some x := it
      match i, it with
      | 0, it => exact ⟨p, (Option.some.inj it).symm, hp⟩
      | 1, it => exact ⟨p2, (Option.some.inj it).symm, hp2⟩
    have d23 := d21.trans (dr.same s23)
    refine seq_gen fun nx2 hnx2 => (if1 ⟨_, rfl, _, rfl, _, rfl, _, rfl, _, rfl, _, rfl, d, la, ca, pi, n, DD, o, dn, false, vt, no, rn, rfl, d23.2, hpi, hlD.mono d23.1, d23.1.seq hoD, W', d23.1.seq nD, okN, fun H24 d24 => ⟨_, rfl, iteF' rfl ?_⟩⟩)
    refine hnx2 [some (.ref a), some (.ref d), some (.int p), some (.int (n : Nat)), some (.ref DD), some (.ref o), some (.ref dl), some (.int ((2 * n + 4 : Nat) : Int)), some (.ref g), some (.ref t1), some (.ref t2), some (.ref dm), some (.ref dwh), some (.ref dn), some (.ref d1), some (.ref dk), some (.int pi), x17] _ ?_
    clear hnx2 nx2
    have d24' := d23.trans d24
    refine if1 ⟨_, rfl, _, rfl, _, rfl, _, rfl, _, rfl, _, rfl, d, la, ca, pi, n, DD, o, dk, true, vt, no, rk, rfl, d24'.2, hpi, hlD.mono d24'.1, d24'.1.seq hoD, W', d24'.1.seq kD, okK, fun H25 d25 => ⟨_, rfl, iteF' rfl ?_⟩⟩
    exact ⟨_, _, rfl, (dr.same s23).trans (d24.trans d25)⟩
  · subst eσ
    refine hnx [some (.ref a), some (.ref d), some (.int p), some (.int (n : Nat)), some (.ref DD), some (.ref o), some (.ref dl), some (.int ((2 * n + 4 : Nat) : Int)), some (.ref g), some (.ref t1), some (.ref t2), some (.ref dm), some (.ref dwh), some (.ref dn), some (.ref d1), some (.ref dk), x16, x17] _ ?_
    clear hnx nx
    have dF := d21.trans dr
    refine ret1 ⟨_, rfl, _, rfl, d, la, ca, 8, rfl, dF.2, by decide, by decide, fun H26 v d26 hv => ⟨_, _, rfl, rfl, d, la, ca, 2 + v, rfl, d26.2, by omega, by omega, ?_, fun H' => q H'⟩⟩
    rw [eP]
    exact (dF.trans d26).keep hP19 nP.1 nP.2
end
end Kz
end
section
set_option Elab.async false
set_option linter.all false
set_option maxRecDepth 100000
set_option maxHeartbeats 0
/-! BadNumber by its Bool -/
namespace Kz
open PySem PySem.Spec PyProof.Rows L2 PySem.HandSPX PySem.W KzH
theorem exB_at {K : Frag} (h : exB K = true) (i : Nat) {b : Bool} (e : (bnL K ++ ruL K ++ moL K)[i]? = some b := by rfl) : b = true := List.all_eq_true.mp h b (List.mem_of_getElem? e)
theorem bnCls_ok {K : Frag} {C : Addr} (h : bnCls K C = true) : ∃ nm q N bs bm sn sub ab col dd k0 k1 k2 k3 k5, K.lookup C = some (excClassObj nm q C N bs bm true sn sub ab col dd k0 k1 k2 k3 k5 "ValueError.__new__") ∧ refsVE bm = true := by
  unfold bnCls at h
  split at h
  · rename_i t dd nm bs mro N q hd sn sub ab col del k0 k1 k2 k3 n k5 lk
    obtain ⟨h1, h2⟩ := Bool.and_eq_true_iff.mp h
    obtain ⟨h3, h4⟩ := Bool.and_eq_true_iff.mp h2
    obtain ⟨h5, h6⟩ := Bool.and_eq_true_iff.mp h4
    obtain ⟨h7, h8⟩ := Bool.and_eq_true_iff.mp h6
    split at h1
    · rename_i c bm
      obtain ⟨g1, g2⟩ := Bool.and_eq_true_iff.mp h1
      have e1 : c = C := of_decide_eq_true g1
      have e2 : t = "type" := of_decide_eq_true h7
      have e3 : n = "ValueError.__new__" := of_decide_eq_true h8
      have e4 : del = false := by simpa using h5
      subst e1 e2 e3 e4 h3
      exact ⟨nm, q, N, bs, bm, sn, sub, ab, col, dd, k0, k1, k2, k3, k5, lk, g2⟩
    · cases h1
  · cases h
theorem bnFn_ok {K : Frag} {C f : Addr} (h : bnFn K C f = true) (e : bnW K f = bnV) : ∃ (oc : Value) (od : Option Addr) (doc pm : Value) (an : Option Addr) (cda : Addr) (ct : Value) (osl : Array (Option Value)) (cc : Addr) (ccl : Value) (cdd : Option Addr) (vs : Array Value) (ccs : Array (Option Value)) (tf : Tok) (cl : Value) (cld : Option Addr) (csl : Array (Option Value)),
    K.lookup f = some ⟨oc, od, .func (ksFn "__init__" "BadNumber.__init__" (L2.defArgs sBN) (L2.defBody sBN) (L2.defScope sBN) .none .none doc pm an (.ref cda) ct cc), osl⟩ ∧ codeIn K (.ref cda) "BadNumber.__init__" = true ∧
    K.lookup cda = some ⟨ccl, cdd, .fields vs, ccs⟩ ∧ vs[2]? = some (.str "/claim/cut.py" tf) ∧ K.lookup cc = some ⟨cl, cld, .cell (some (.ref C)), csl⟩ := by
  unfold bnFn at h
  unfold bnW at e
  split at h
  · rename_i oc od fd osl lk
    rw [lk] at e
    obtain ⟨n1, n2, n3, n4, n5, n6, n7, n8, n9, n10, n11, n12, n13, n14, n15⟩ := fd
    have e2 : (some (n1, n2, n3, n4, n5, n6, n7.map (·.1), n8, n9, n15) : BnO) = bnV := e
    unfold bnV at e2
    simp only [Option.some.injEq, Prod.mk.injEq] at e2
    obtain ⟨h1, h2, h3, h4, h5, h6, h7, h8, h9, h10⟩ := e2
    subst h1 h2 h3 h4 h5 h6 h8 h9 h10
    obtain ⟨g1, g2⟩ := Bool.and_eq_true_iff.mp h
    obtain ⟨g3, g4⟩ := Bool.and_eq_true_iff.mp g2
    dsimp only at g1 g3 g4
    split at g3
    · rename_i cd
      split at g3
      · rename_i c1 c2 vs c3 lc
        split at g3
        · rename_i z tf hz
          split at g4
          · rename_i q
            obtain ⟨qn, qa⟩ := q
            split at g4
            · rename_i u1 u2 u u3 lq
              have e4 : z = "/claim/cut.py" := of_decide_eq_true g3
              have e5 : u = .ref C := of_decide_eq_true g4
              have e6 : qn = "__class__" := List.head_eq_of_cons_eq h7
              subst e4 e5 e6
              exact ⟨oc, od, _, _, _, cd, _, osl, qa, c1, c2, vs, c3, tf, u1, u2, u3, lk, g1, lc, hz, lq⟩
            · cases g4
          · cases g4
        · cases g3
      · cases g3
    · cases g3
  · cases h
theorem bn_ok {K : Frag} {h : Heap} {mg : Str → Option Value} (X : K.In h) (G : h.Ns mainGlobals mg) (x : exB K = true) (e : bnW K (bnI K) = bnV) (g : (He.Fa.glo "BadNumber").ok K = true) (fs : (He.Fa.free "super").ok K = true) : BnT K mg (bnC K) (bnI K) :=
  { gC := He.glo_ok X G g
    cls := bnCls_ok (exB_at x 0)
    sa := He.eqO_ok (exB_at x 2)
    noN := He.eqO_ok (exB_at x 3)
    iC := He.eqO_ok (exB_at x 4)
    tC := of_decide_eq_true (exB_at x 5)
    kC := exB_at x 6
    exC := of_decide_eq_true (exB_at x 7)
    tyC := of_decide_eq_true (exB_at x 8)
    veC := of_decide_eq_true (exB_at x 9)
    ccC := of_decide_eq_true (exB_at x 10)
    tp := He.eqO_ok (exB_at x 11)
    up := He.eqO_ok (exB_at x 12)
    sup := He.free_ok X G fs
    fn := bnFn_ok (exB_at x 1) e }
end Kz
end
section
set_option Elab.async false
set_option linter.all false
set_option maxRecDepth 100000
set_option maxHeartbeats 0
/-! the head's facts by names; the promises chained -/
namespace Kz
open PySem PySem.Spec PyProof.Rows L2 LamX KzM KzH
section
variable {w : World} {K : PySem.W.Frag} {h : Heap} {mg : Str → Option Value}
theorem faM (c : SaysY w h K) {f : He.Fa} (i : Nat) (e : faL[i]? = some f := by rfl) : f.ok K = true := c.x.t.d.fact i e
theorem gloM (c : SaysY w h K) (X : K.In h) (G : h.Ns mainGlobals mg) {x : Str} (hx : x ∈ gls) : mg x = some (.ref (He.ga K x)) :=
  He.glo_ok X G (He.SaysD.facts c.x.t.d (List.mem_append_left _ (List.mem_append_left _ (List.mem_map.mpr ⟨x, hx, rfl⟩))))
theorem freeM (c : SaysY w h K) (X : K.In h) (G : h.Ns mainGlobals mg) {x : Str} (hx : x ∈ blt) : mg x = none :=
  He.free_ok X G (He.SaysD.facts c.x.t.d (List.mem_append_left _ (List.mem_append_right _ (List.mem_map.mpr ⟨x, hx, rfl⟩))))
theorem laM (c : SaysY w h K) {f : He.Fa} (i : Nat) (e : ([.int "MOST_LETTERS" 9, .int "MOST_WORDS" 1000, .cls "Rules", .noat "Rules" "prime", .noat "Rules" "letters", .noat "Rules" "rules", .mkr "Rules", .exc "BadWeb", .exm "BadNumber" "RuleError" true, .exm "BadWeb" "RuleError" true] : List He.Fa)[i]? = some f := by rfl) : f.ok K = true :=
  He.SaysD.facts c.x.t.d (List.mem_append_right _ (List.mem_of_getElem? e))
theorem dA (c : SaysY w h K) (g : ∀ x : Str, x ∈ gls → mg x = some (.ref (He.ga K x))) {x : Str} {st : Stmt} (i : Nat) (e : fnL[i]? = some ⟨(x, none), x, x, L2.defArgs st, L2.defBody st, L2.defScope st, [], []⟩) (hx : x ∈ gls) : DefAt K mg x st :=
  ⟨c.x.t.d.def_ i e, g x hx⟩
theorem txt_of (c : SaysY w h K) (X : K.In h) (G : h.Ns mainGlobals mg) : Txt K mg :=
  { isinstance_ := freeM c X G (by decide +kernel)
    len_ := freeM c X G (by decide +kernel)
    all_ := freeM c X G (by decide +kernel)
    any_ := freeM c X G (by decide +kernel)
    range_ := freeM c X G (by decide +kernel)
    set_ := freeM c X G (by decide +kernel)
    sorted_ := freeM c X G (by decide +kernel)
    dict_ := freeM c X G (by decide +kernel)
    list_ := freeM c X G (by decide +kernel)
    tuple_ := freeM c X G (by decide +kernel)
    int_ := freeM c X G (by decide +kernel)
    abs_ := freeM c X G (by decide +kernel)
    min_ := freeM c X G (by decide +kernel)
    max_ := freeM c X G (by decide +kernel)
    sum_ := freeM c X G (by decide +kernel)
    enumerate_ := freeM c X G (by decide +kernel)
    zip_ := freeM c X G (by decide +kernel)
    bool_ := freeM c X G (by decide +kernel)
    MOST_LETTERS := He.int_ok X G (laM c 0)
    MOST_WORDS := He.int_ok X G (laM c 1)
    g_PRIMES := gloM c X G (by decide +kernel)
    primes := fun H => He.tupB_ok (exB_at c.x.more 17) H }
/-- the law's promise, over every base -/
theorem law_at (c : SaysY w h K) (X : K.In h) (G : h.Ns mainGlobals mg) (base : Heap) (TB : TabB base mg (He.cT K ("_law_fractions_refused", none)).1 (He.cT K ("_law_fractions_refused", none)).2) : FnS PG w K mg base CX0 10 "law" ["_law_script"] (spLaw K) := by
  have g : ∀ x : Str, x ∈ gls → mg x = some (.ref (He.ga K x)) := fun x hx => gloM c X G hx
  have T : Txt K mg := txt_of c X G
  let CB : Addr := bnC K
  let CW : Addr := He.ga K "BadWeb"
  let CR : Addr := ruC K
  let fR : Addr := He.ma K (ruC K) "__init__"
  have B : BnT K mg CB (bnI K) := bn_ok X G c.x.more c.n (He.SaysD.facts c.x.t.d (List.mem_append_left _ (List.mem_append_left _ (List.mem_map.mpr ⟨_, by decide +kernel, rfl⟩)))) (He.SaysD.facts c.x.t.d (List.mem_append_left _ (List.mem_append_right _ (List.mem_map.mpr ⟨_, by decide +kernel, rfl⟩))))
  have U : RuT K mg CR fR :=
    { cl := He.cls_ok (laM c 2)
      nP := He.noat_ok (laM c 3)
      nL := He.noat_ok (laM c 4)
      nR := He.noat_ok (laM c 5)
      g := g _ (by decide +kernel)
      mkr := He.mkr_ok (laM c 6)
      a1 := He.eqO_ok (exB_at c.x.more 13)
      a2 := He.eqO_ok (exB_at c.x.more 14)
      a3 := of_decide_eq_true (exB_at c.x.more 15)
      a4 := of_decide_eq_true (exB_at c.x.more 16)
      is1 := if_pos (beq_self_eq_true _) }
  obtain ⟨xw1, xw2, xw3, xw4⟩ := He.exc_ok (laM c 7)
  have WB : WbT K mg CW := ⟨xw1, g _ (by decide +kernel), xw2, xw3, xw4⟩
  have XB : ExcA K CB := excB_ok (exB_at c.x.more 18)
  have XW : ExcA K CW := excB_ok (exB_at c.x.more 19)
  have mB : PySem.W.exmOne K (.ref CB) (.ref (He.ga K "RuleError")) = some true := He.exm_ok (laM c 8)
  have mW : PySem.W.exmOne K (.ref CW) (.ref (He.ga K "RuleError")) = some true := He.exm_ok (laM c 9)
  have CA : CaughtAt K mg (He.ga K "RuleError") := ⟨dA c g 49 rfl (by decide +kernel), g _ (by decide +kernel)⟩
  have DI : MetAt K "__init__" "Rules.__init__" sd_Rules___init__ fR := ⟨c.x.t.d.def_ 17 rfl⟩
  have h__law_begun : FnS PG w K mg base CX0 1 "_law_begun" ["_law_script"] (spBegun K) := f_law_begun (dA c g 43 rfl (by decide +kernel)) T
  have h__law_mixed : FnS PG w K mg base CX0 1 "_law_mixed" ["_law_draw"] spMixed := f_law_mixed (dA c g 44 rfl (by decide +kernel)) T
  have h__law_take : FnS PG w K mg base CX0 2 "_law_take" ["_law_draw", "_law_amount"] spTake := f_law_take (dA c g 45 rfl (by decide +kernel)) T h__law_mixed
  have h__law_pick : FnS PG w K mg base CX0 3 "_law_pick" ["_law_draw", "_law_some"] (spPick K) := f_law_pick (dA c g 46 rfl (by decide +kernel)) T h__law_take
  have h__law_field : FnS PG w K mg base CX0 4 "_law_field" ["_law_draw"] spField := f_law_field (dA c g 48 rfl (by decide +kernel)) T h__law_pick
  have h__law_pairs : FnS PG w K mg base CX0 1 "_law_pairs" ["_law_letters"] (spPairs K) := f_law_pairs (dA c g 51 rfl (by decide +kernel)) T
  have h__law_shuffled : FnS PG w K mg base CX0 3 "_law_shuffled" ["_law_draw", "_law_some"] (spShuffled K) := f_law_shuffled (dA c g 47 rfl (by decide +kernel)) T h__law_take
  have h__law_drawn_web : FnS PG w K mg base CX0 4 "_law_drawn_web" ["_law_draw", "_law_field_here", "_law_letters"] (spDrawnWeb K) := f_law_drawn_web (dA c g 59 rfl (by decide +kernel)) T h__law_take h__law_pairs h__law_shuffled
  have h__law_ring : FnS PG w K mg base CX0 4 "_law_ring" ["_law_draw", "_law_field_here"] (spRing K) := f_law_ring (dA c g 60 rfl (by decide +kernel)) T h__law_take h__law_shuffled
  have h__law_web_letters : FnS PG w K mg base CX0 5 "_law_web_letters" ["_law_draw", "_law_field_here"] (spWebLetters K) := f_law_web_letters (dA c g 65 rfl (by decide +kernel)) T h__law_take h__law_pick h__law_drawn_web h__law_ring
  have h__law_joined_by_lines : FnS PG w K mg base CX0 1 "_law_joined_by_lines" ["_law_lines_here"] (spJoined K) := f_law_joined_by_lines (dA c g 61 rfl (by decide +kernel)) T
  have h__law_many : FnS PG w K mg base CX0 1 "_law_many" ["_law_letters", "_law_length"] spMany := f_law_many (dA c g 50 rfl (by decide +kernel)) T
  have h__law_all_lots : FnS PG w K mg base CX0 2 "_law_all_lots" ["_law_letters", "_law_lines_here"] (spAllLots K) := f_law_all_lots (dA c g 62 rfl (by decide +kernel)) T h__law_joined_by_lines h__law_many h__law_pairs
  have h__law_given : FnS PG w K mg base CX0 3 "_law_given" ["_law_draw", "_law_some"] (spGiven K) := f_law_given (dA c g 53 rfl (by decide +kernel)) T h__law_take
  have h_is_number : FnS PG w K mg base CX0 1 "is_number" ["thing"] (spIsNumber K) := f_is_number (dA c g 0 rfl (by decide +kernel)) T
  have h_is_between : FnS PG w K mg base CX0 2 "is_between" ["thing", "low", "high"] (spIsBetween K) := f_is_between (dA c g 1 rfl (by decide +kernel)) T h_is_number
  have h_need_letters : FnS PG w K mg base (L2.CX PG w) 3 "need_letters" ["letters"] (spNeedLetters K CB) := f_need_letters (dA c g 6 rfl (by decide +kernel)) T B h_is_between
  have h_is_list : FnS PG w K mg base CX0 1 "is_list" ["thing"] (spIsList K) := f_is_list (dA c g 2 rfl (by decide +kernel)) T
  have h_is_row : FnS PG w K mg base CX0 2 "is_row" ["thing", "size"] (spIsRow K) := f_is_row (dA c g 3 rfl (by decide +kernel)) T h_is_number h_is_list
  have h_is_line : FnS PG w K mg base CX0 3 "is_line" ["letters", "thing"] (spIsLine K) := f_is_line (dA c g 33 rfl (by decide +kernel)) T h_is_row
  have h_need_lines : FnS PG w K mg base (L2.CX PG w) 4 "need_lines" ["letters", "lines"] (spNeedLines K CB CW) := f_need_lines (dA c g 34 rfl (by decide +kernel)) T WB h_need_letters h_is_list h_is_line
  have h_need_web : FnS PG w K mg base (L2.CX PG w) 5 "need_web" ["letters", "lines", "nothings"] (spNeedWeb K CB CW) := f_need_web (dA c g 35 rfl (by decide +kernel)) T WB h_need_lines h_is_list h_is_between
  have h_lots_in : FnS PG w K mg base CX0 1 "lots_in" ["letters", "lines"] (spLots K) := f_lots_in (dA c g 39 rfl (by decide +kernel)) T
  have h_products_joined : FnS PG w K mg base CX0 1 "products_joined" ["one", "other"] (spProducts K) := f_products_joined (dA c g 27 rfl (by decide +kernel)) T
  have h_list_power : FnS PG w K mg base CX0 2 "list_power" ["row", "many"] (spListPower K) := f_list_power (dA c g 40 rfl (by decide +kernel)) T h_products_joined
  have h_lists_joined : FnS PG w K mg base CX0 1 "lists_joined" ["one", "other"] (spLists K) := f_lists_joined (dA c g 28 rfl (by decide +kernel)) T
  have h_trimmed : FnS PG w K mg base CX0 1 "trimmed" ["row"] (spTrimmed K) := f_trimmed (dA c g 26 rfl (by decide +kernel)) T
  have h_left_over : FnS PG w K mg base CX0 2 "left_over" ["one", "other"] (spLeftOver K) := f_left_over (dA c g 30 rfl (by decide +kernel)) T h_trimmed
  have h_common_number : FnS PG w K mg base CX0 1 "common_number" ["some"] (spCommonNumber K) := f_common_number (dA c g 29 rfl (by decide +kernel)) T
  have h_common_list : FnS PG w K mg base CX0 3 "common_list" ["one", "other"] (spCommonList K) := f_common_list (dA c g 31 rfl (by decide +kernel)) T h_trimmed h_left_over h_common_number
  have h_unrolled_to : FnS PG w K mg base CX0 1 "unrolled_to" ["over", "below", "most"] (spUnrolled K) := f_unrolled_to (dA c g 25 rfl (by decide +kernel)) T
  have h_least_fraction : FnS PG w K mg base CX0 4 "least_fraction" ["over", "below"] (spLeast K) := f_least_fraction (dA c g 32 rfl (by decide +kernel)) T h_trimmed h_common_list h_unrolled_to
  have h_web_fraction : FnS PG w K mg base (L2.CX PG w) 6 "web_fraction" ["letters", "lines", "nothings"] (spFrac K CB CW 1 webF) := f_web_fraction (dA c g 41 rfl (by decide +kernel)) T h_need_web h_lots_in h_list_power h_products_joined h_lists_joined h_least_fraction
  have h_shut_fraction : FnS PG w K mg base (L2.CX PG w) 6 "shut_fraction" ["letters", "lines", "nothings"] (spFrac K CB CW (-1) shutF) := f_shut_fraction (dA c g 42 rfl (by decide +kernel)) T h_need_web h_lots_in h_list_power h_products_joined h_lists_joined h_least_fraction
  have h__law_unrolled : FnS PG w K mg base CX0 1 "_law_unrolled" ["_law_over_here", "_law_below_here", "_law_most"] (spUnrolled K) := f_law_unrolled (dA c g 55 rfl (by decide +kernel)) T
  have h__law_series_joined : FnS PG w K mg base CX0 1 "_law_series_joined" ["_law_one", "_law_other"] (spSeries K) := f_law_series_joined (dA c g 66 rfl (by decide +kernel)) T
  have h__law_lots_sum : FnS PG w K mg base CX0 2 "_law_lots_sum" ["_law_lots_due", "_law_nothings_here", "_law_plain_one", "_law_nothing_one"] (spLotsSum K) := f_law_lots_sum (dA c g 67 rfl (by decide +kernel)) T h__law_series_joined
  have h__law_last_cut : FnS PG w K mg base CX0 1 "_law_last_cut" ["_law_row"] (spTrimmed K) := f_law_last_cut (dA c g 56 rfl (by decide +kernel)) T
  have h__law_share_part : FnS PG w K mg base CX0 2 "_law_share_part" ["_law_one", "_law_other"] (spShare K) := f_law_share_part (dA c g 57 rfl (by decide +kernel)) T h__law_last_cut
  have h__law_is_fraction : FnS PG w K mg base CX0 3 "_law_is_fraction" ["_law_thing", "_law_numbers_here", "_law_most"] (spIsFraction K) := f_law_is_fraction (dA c g 58 rfl (by decide +kernel)) T h__law_unrolled h__law_share_part
  have h__law_longest : FnS PG w K mg base CX0 2 "_law_longest" ["_law_letters", "_law_most"] spLongest := f_law_longest (dA c g 52 rfl (by decide +kernel)) T h__law_many
  have h_need_book : FnS PG w K mg base CX0 1 "need_book" ["thing"] (spNeedBook K CR) := f_need_book (dA c g 18 rfl (by decide +kernel)) T U
  have h_need_from : FnS PG w K mg base CX0 2 "need_from" ["number", "part"] spNeedFrom := f_need_from (dA c g 7 rfl (by decide +kernel)) T h_is_number
  have h_many_words : FnS PG w K mg base CX0 1 "many_words" ["letters", "length"] spManyWords := f_many_words (dA c g 8 rfl (by decide +kernel)) T
  have h_need_length : FnS PG w K mg base CX0 3 "need_length" ["book", "length"] (spNeedLength K CR) := f_need_length (dA c g 22 rfl (by decide +kernel)) T U h_need_book h_need_from h_many_words
  have h_few : FnS PG w K mg base CX0 1 "few" ["prime", "row"] (spFew K) := f_few (dA c g 11 rfl (by decide +kernel)) T
  have h_placed_few : FnS PG w K mg base CX0 2 "placed_few" ["book", "length", "place"] (spPlaced K CR) := f_placed_few (dA c g 20 rfl (by decide +kernel)) T U h_many_words h_few
  have h_undone : FnS PG w K mg base CX0 1 "undone" ["prime", "number"] spUndone := f_undone (dA c g 10 rfl (by decide +kernel)) T
  have h_lessened : FnS PG w K mg base CX0 1 "lessened" ["prime", "row", "other", "many"] spLessened := f_lessened (dA c g 13 rfl (by decide +kernel)) T
  have h_cleared : FnS PG w K mg base CX0 2 "cleared" ["prime", "row", "heads"] spCleared := f_cleared (dA c g 14 rfl (by decide +kernel)) T h_lessened
  have h_heads_of : FnS PG w K mg base CX0 3 "heads_of" ["prime", "rows"] (spHeadsOf K) := f_heads_of (dA c g 15 rfl (by decide +kernel)) T h_undone h_lessened h_cleared
  have h_nothing_heads : FnS PG w K mg base CX0 4 "nothing_heads" ["book", "length"] (spNothing K CR) := f_nothing_heads (dA c g 21 rfl (by decide +kernel)) T U h_placed_few h_heads_of
  have h_rest_spots : FnS PG w K mg base CX0 5 "rest_spots" ["book", "length"] (spRest K CR) := f_rest_spots (dA c g 23 rfl (by decide +kernel)) T U h_nothing_heads h_many_words
  have h_count : FnS PG w K mg base CX0 6 "count" ["book", "length"] (spCount K CR) := f_count (fI := fR) (dA c g 24 rfl (by decide +kernel)) T h_need_length h_rest_spots
  have h_need_prime : FnS PG w K mg base CX0 2 "need_prime" ["prime"] spNeedPrime := f_need_prime (dA c g 5 rfl (by decide +kernel)) T h_is_number
  have h_are_rows : FnS PG w K mg base CX0 3 "are_rows" ["thing", "size"] (spAreRows K) := f_are_rows (dA c g 4 rfl (by decide +kernel)) T h_is_list h_is_row
  have h_need_rows : FnS PG w K mg base CX0 4 "need_rows" ["thing", "size"] (spNeedRows K) := f_need_rows (dA c g 9 rfl (by decide +kernel)) T h_are_rows
  have h_whole_row : FnS PG w K mg base CX0 1 "whole_row" ["size", "sparse"] (spWholeRow K) := f_whole_row (dA c g 12 rfl (by decide +kernel)) T
  have h_tidy_rows : FnS PG w K mg base CX0 4 "tidy_rows" ["prime", "size", "rows"] (spTidy K) := f_tidy_rows (dA c g 16 rfl (by decide +kernel)) T h_few h_whole_row h_heads_of
  have h_init : MetS PG w K mg base CX0 5 fR ["self", "prime", "letters", "rows"] (spInit K CR) := f_init (fB := fR) DI T U h_need_prime h_need_letters h_need_rows h_tidy_rows
  have h_pair_row : FnS PG w K mg base CX0 1 "pair_row" ["letters", "pairs"] (spPairRow K) := f_pair_row (dA c g 19 rfl (by decide +kernel)) T
  have h_web_rows : FnS PG w K mg base CX0 6 "web_rows" ["prime", "letters", "lines", "nothings"] (spWebRows K) := f_web_rows (dA c g 36 rfl (by decide +kernel)) T h_need_prime h_need_web h_pair_row
  have h_web_book : FnS PG w K mg base CX0 7 "web_book" ["prime", "letters", "lines", "nothings"] (spBook K CR fun _ => webTr) := f_web_book (dA c g 37 rfl (by decide +kernel)) T U h_init h_web_rows
  have h_shut_web : FnS PG w K mg base CX0 7 "shut_web" ["prime", "letters", "lines", "nothings"] (spBook K CR shutTr) := f_shut_web (dA c g 38 rfl (by decide +kernel)) T U h_init h_web_rows h_pair_row
  have h__law_books_count : FnS PG w K mg base CX0 8 "_law_books_count" ["_law_draw", "_law_field_here", "_law_letters", "_law_lines_here", "_law_nothings_here", "_law_numbers_here", "_law_is_shut"] (spBooksCount K) := f_law_books_count (dA c g 68 rfl (by decide +kernel)) T h__law_take h__law_longest h_count h_web_book h_shut_web
  have h__law_is_number : FnS PG w K mg base CX0 1 "_law_is_number" ["_law_caught_here", "_law_part"] (spIsNumberE CB) := Lw.f_law_is_number (dA c g 54 rfl (by decide +kernel)) T B XB
  have h__law_bad_lines : FnS PG w K mg base CX0 1 "_law_bad_lines" ["_law_letters"] (spBadLines K) := f_law_bad_lines (dA c g 63 rfl (by decide +kernel)) T
  have h__law_bad_nothings : FnS PG w K mg base CX0 1 "_law_bad_nothings" ["_law_letters"] (spBadNoth K) := f_law_bad_nothings (dA c g 64 rfl (by decide +kernel)) T
  have h__law_fractions_refused : FnS PG w K mg base CX0 9 "_law_fractions_refused" ["_law_draw", "_law_letters"] (spRefused K) := f_law_fractions_refused (fB := fR) (dA c g 69 rfl (by decide +kernel)) T TB CA WB XB XW mB mW h__law_pick h__law_is_number h__law_bad_lines h__law_bad_nothings h_web_fraction h_shut_fraction
  exact f_law (dA c g 70 rfl (by decide +kernel)) T (dA c g 41 rfl (by decide +kernel)) (dA c g 42 rfl (by decide +kernel)) ⟨h__law_begun, h__law_field, h__law_web_letters, h__law_all_lots, h__law_take, h__law_given, h_web_fraction, h_shut_fraction, h__law_unrolled, h__law_lots_sum, h__law_is_fraction, h__law_books_count, h__law_fractions_refused⟩
/-- what the end asks for -/
theorem law_end (c : SaysY w h K) (X : K.In h) (G : h.Ns mainGlobals mg) {fa : Addr} (hfa : mg "law" = some (.ref fa)) : LawAtS PySem.Challenge.rw_ruleshadows_k60_whole_counts_of_webs w K CX0 10 63 "_law_script" mg fa h := by
  have ef : fa = He.ga K "law" := by
    have q := hfa.symm.trans (gloM c X G (x := "law") (by decide +kernel))
    injection q with q
    injection q
  obtain ⟨fd, F⟩ := c.x.t.d.def_ (fn := fnL) 70 rfl
  have ed : fdOf K (He.ga K "law") = fd := by
    obtain ⟨oc, od, dV, kV, doc, pm, an, cdv, ct, osl, h1, h2, _⟩ := F.ex
    unfold fdOf
    rw [show K.lookup (He.ga K "law") = _ from h2]
  refine ⟨fd, [He.cT K ("_law_fractions_refused", none)], spLaw K, ?_, ?_, ?_, ?_, ?_, ?_⟩
  · intro p hp
    cases List.mem_singleton.mp hp
    exact c.x.empty _ (List.mem_singleton.mpr rfl)
  · intro p hp
    cases List.mem_singleton.mp hp
    exact c.x.out _ (List.mem_singleton.mpr rfl)
  · intro p hp
    cases List.mem_singleton.mp hp
    exact PySem.W.codeHd_of_K X (c.x.hd _ (List.mem_singleton.mpr rfl))
  · intro s u
    exact FunD.bindsA (ps := ["_law_script"]) F (fun _ _ _ _ _ _ us hl => match us, hl with | [_], _ => rfl) s [u] rfl
  · intro H a ns hl _ hT hS
    exact ⟨a, ns, rfl, hS, hl, hT _ (List.mem_singleton.mpr rfl), fun _ => rfl⟩
  · intro base _ _ TB
    have z := (law_at c X G base (TB _ (List.mem_singleton.mpr rfl))).ok
    rw [ed] at z
    rw [ef]
    exact z
end
end Kz
end
section
set_option Elab.async false
set_option linter.all false
set_option maxRecDepth 100000
set_option maxHeartbeats 0
/-! the end -/
open PySem PySem.W PySem.Calls PyProof.Rows
theorem PySem.Challenge.cw_ruleshadows_k60_whole_counts_of_webs_holds : PySem.Challenge.rw_ruleshadows_k60_whole_counts_of_webs.Holds := by
  w_on; o_law
  refine HandSHeadRun.head_any (r := OpenLaw.row PySem.Challenge.rw_ruleshadows_k60_whole_counts_of_webs) (q := view (OpenLaw.row PySem.Challenge.rw_ruleshadows_k60_whole_counts_of_webs).prog [89]) (H := KzH.hookY) (ob := KzH.obY) (M := 6000) (loose := KzH.nmL) (d := HandSHeadRun.topDef (OpenLaw.row PySem.Challenge.rw_ruleshadows_k60_whole_counts_of_webs).prog 89) (kwd := []) KzH.obY_eq
    (by kernel_rfl) (fun s => by kernel_rfl) KzH.runY (by kernel_rfl) (by kernel_rfl) (by kernel_rfl) (by rfl) (by first | assumption | decide +kernel) (by decide +kernel) ⟨rfl, rfl, rfl, rfl, rfl, by decide +kernel⟩ ?hw ?hc
  case hw => w_witness2
  case hc =>
    refine LamX.walk_ofTsE (l := PySem.Challenge.rw_ruleshadows_k60_whole_counts_of_webs) (n := 63) (k := 10) (x := "_law_script") (CX := fun _ => L2.CX0) rfl (by decide) (by kernel_rfl) ⟨rfl, by decide, by decide⟩ ?F (fun _ _ _ _ _ z => z)
    intro w mg fa h Y G hmg0
    obtain ⟨K, KX, c⟩ := Y
    have e : (HandSHeadRun.topDef (OpenLaw.row PySem.Challenge.rw_ruleshadows_k60_whole_counts_of_webs).prog 89).name = ("law" : PySem.Str) := by kernel_rfl
    rw [e] at hmg0
    exact ⟨K, KX, Kz.law_end c KX G hmg0⟩
end
